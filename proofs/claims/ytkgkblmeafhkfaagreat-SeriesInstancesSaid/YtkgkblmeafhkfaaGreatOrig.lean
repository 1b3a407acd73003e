/- slices.DeleteFunc at a map's closure and slices.Compact, over the program's edges: laid once (the library's contracts), and told in the words of owned rows. -/
import Derived.Test.YtkgkblmeafhkfaaGreatProg
import Derived.Shelf.SlicesE.DeleteFunc
import Derived.Shelf.SlicesE.Compact
import Derived.Maps.OwnSet
import Derived.Carry
import Derived.Test.YtkgkblmeafhkfaaGreatWAll
set_option linter.unusedVariables false
namespace Go.Proofs
open Go.Shelf Go.RowKit Go.Lib Go.Sort
def Tryz.delInt_ren:Go.Shelf.Ren:=⟨fun | 10=>47 | 6=>62 | n=>n,fun | 22=>26 | 23=>2 | 25=>74 | 3=>3 | 4=>4 | 0=>0 | n=>n,fun | n=>n⟩
theorem Tryz.delInt:Go.Proofs.SlLaysH.n10 Tryz.prog Tryz.delInt_ren:={
 mixed:=by kernel_rfl,
 f6:=⟨Tryz.f62.name,by decide,Tryz.func62.trans (congrArg some (by kernel_rfl))⟩,
 f10:=⟨Tryz.f47.name,by decide,Tryz.func47.trans (congrArg some (by kernel_rfl))⟩,
 t0:=Tryz.underlying0,
 a0:=Tryz.isAgg0,
 z0:=Tryz.sizeOf0,
 v0:=Tryz.zeroValue0,
 t3:=Tryz.underlying3,
 a3:=Tryz.isAgg3,
 z3:=Tryz.sizeOf3,
 v3:=Tryz.zeroValue3,
 t4:=Tryz.underlying4,
 a4:=Tryz.isAgg4,
 z4:=Tryz.sizeOf4,
 v4:=Tryz.zeroValue4,
 t22:=Tryz.underlying26,
 a22:=Tryz.isAgg26,
 z22:=Tryz.sizeOf26,
 v22:=Tryz.zeroValue26,
 a23:=Tryz.isAgg2,
 z23:=Tryz.sizeOf2,
 t25:=Tryz.underlying74,
 a25:=Tryz.isAgg74,
 z25:=Tryz.sizeOf74,
 v25:=Tryz.zeroValue74 }
def Tryz.compInt_ren:Go.Shelf.Ren:=⟨fun | 43=>50 | n=>n,fun | 22=>26 | 23=>2 | 3=>3 | 4=>4 | 0=>0 | n=>n,fun | n=>n⟩
theorem Tryz.compInt:Go.Proofs.SlLaysE.n43 Tryz.prog Tryz.compInt_ren:={
 mixed:=by kernel_rfl,
 f43:=⟨Tryz.f50.name,by decide,Tryz.func50.trans (congrArg some (by kernel_rfl))⟩,
 t0:=Tryz.underlying0,
 a0:=Tryz.isAgg0,
 z0:=Tryz.sizeOf0,
 v0:=Tryz.zeroValue0,
 t3:=Tryz.underlying3,
 a3:=Tryz.isAgg3,
 z3:=Tryz.sizeOf3,
 v3:=Tryz.zeroValue3,
 t4:=Tryz.underlying4,
 a4:=Tryz.isAgg4,
 z4:=Tryz.sizeOf4,
 v4:=Tryz.zeroValue4,
 t22:=Tryz.underlying26,
 a22:=Tryz.isAgg26,
 z22:=Tryz.sizeOf26,
 v22:=Tryz.zeroValue26,
 a23:=Tryz.isAgg2,
 z23:=Tryz.sizeOf2 }
end Go.Proofs
namespace Go.Proofs.YtkgkblmeafhkfaaGreat.Orig
open Go.Shelf Go.RowKit Go.Lib Go.Sort Go.Maps Go.Proofs.YtkgkblmeafhkfaaGreatW.PrintWords Go.Proofs.YtkgkblmeafhkfaaGreatW.PrintLast Go.Proofs.YtkgkblmeafhkfaaGreatW.PrintMore
/-! ### plain -/
def cf (p:Int):List Int→List Int
 | []=>[]
 | x :: r=>if x=p then cf x r else x :: cf x r
/-- Runs of one number become one. -/
def dedup:List Int→List Int
 | []=>[]
 | x :: r=>x :: cf x r
theorem compactUpTo_append (a b:List Int):compactUpTo (a ++ b).toArray a.length=compactUpTo a.toArray a.length:=by
 unfold compactUpTo
 have h:∀ j,j < a.length→(a ++ b).toArray[j]! = a.toArray[j]!:=fun j hj=>by
  rw [getElem!_pos _ j (by simp;omega),getElem!_pos _ j (by simpa using hj)]
  simp [List.getElem_append_left hj]
 have hk:(List.range a.length).filter (keeps (a ++ b).toArray)=(List.range a.length).filter (keeps a.toArray):=by
  apply List.filter_congr
  intro j hj
  have hj':=List.mem_range.1 hj
  unfold keeps
  rw [h j hj',h (j - 1) (by omega)]
 rw [hk]
 apply List.map_congr_left
 intro j hj
 exact h j (List.mem_range.1 (List.mem_filter.1 hj).1)
theorem compactUpTo_cf:∀ (rest pre:List Int) (p:Int),compactUpTo (pre ++ [p] ++ rest).toArray (pre ++ [p] ++ rest).length=compactUpTo (pre ++ [p]).toArray (pre ++ [p]).length ++ cf p rest
 | [],pre,p=>by simp [cf]
 | y :: r,pre,p=>by
  have ih:=compactUpTo_cf r (pre ++ [p]) y
  have e:pre ++ [p] ++ y :: r=pre ++ [p] ++ [y] ++ r:=by simp
  rw [e,ih]
  have e1:compactUpTo (pre ++ [p] ++ [y]).toArray (pre ++ [p] ++ [y]).length=compactUpTo (pre ++ [p]).toArray (pre ++ [p]).length ++ (if y=p then [] else [y]):=by
   rw [show (pre ++ [p] ++ [y]).length=(pre ++ [p]).length + 1 by simp,compactUpTo_succ,compactUpTo_append]
   congr 1
   have g1:(pre ++ [p] ++ [y]).toArray[(pre ++ [p]).length]! = y:=by
    rw [getElem!_pos _ _ (by simp)]
    simp
   have g2:(pre ++ [p] ++ [y]).toArray[(pre ++ [p]).length - 1]! = p:=by
    rw [getElem!_pos _ _ (by simp)]
    simp [List.getElem_append_right]
   by_cases hy:y=p
   ·rw [if_pos hy,keeps_neg (by simp) (by rw [g1,g2,hy])]
    rfl
   ·rw [if_neg hy,keeps_pos (by rw [g1,g2];exact hy),if_pos rfl,g1]
  rw [e1]
  simp only [cf]
  by_cases hy:y=p
  ·rw [if_pos hy,if_pos hy];simp
  ·rw [if_neg hy,if_neg hy];simp
theorem compactUpTo_dedup (xs:List Int):compactUpTo xs.toArray xs.length=dedup xs:=by
 cases xs with
 | nil=>rfl
 | cons x r =>
  have h:=compactUpTo_cf r [] x
  simp only [List.nil_append,List.singleton_append] at h
  rw [h,show ([x]:List Int).length=0 + 1 from rfl,compactUpTo_succ]
  rfl
theorem dedup_le (xs:List Int):(dedup xs).length≤xs.length:=by
 have h:∀ (r:List Int) (p:Int),(cf p r).length≤r.length:=by
  intro r
  induction r with
  | nil=>intro p;exact Nat.le_refl _
  | cons x r ih=>intro p;unfold cf;split <;> simp <;> have:=ih x <;> omega
 cases xs with
 | nil=>exact Nat.le_refl _
 | cons x r=>simp [dedup];exact h r x
/-! ### a row that is put, and cut -/
theorem own_put {w:World} {base cap g:Nat} {xs cells:List Int} {enc:Int→Value} (ys pad:List Int) (ho:w.ownsRow base 2 1 (.slice (some ⟨g,0,none⟩) xs.length cap) xs.length (cells.map (Value.int .i64)))
  (hl:ys.length + pad.length=xs.length) (m:Nat) (os:Array Obj) :
  (grow (putRow enc (Sort.ahead w m) g 0 (ys ++ pad).toArray) os).ownsRow base 2 1 (.slice (some ⟨g,0,none⟩) ys.length cap) ys.length (ys.map enc)∧w.grownBy (grow (putRow enc (Sort.ahead w m) g 0 (ys ++ pad).toArray) os) (some g):=by
 obtain ⟨_,h | ⟨g',cap',cur,hv,hg,hh,hnc,hcm,hcs,htk⟩⟩:=ho
 ·exact absurd h.1 (by simp)
 ·obtain rfl:g' = g:=by injection hv with h1 _ _;injection h1 with h1;injection h1 with h1;exact h1.symm
  obtain rfl:cap' = cap:=by injection hv with _ _ h3;exact h3.symm
  have hlt:=blk_lt hh
  have hget:∀ b,b < w.heap.size→(grow (putRow enc (Sort.ahead w m) g' 0 (ys ++ pad).toArray) os).heap[b]? = ((w.heap.modify g' (onCells (putCells enc 0 (ys ++ pad).toArray)))[b]?):=by
   intro b hb
   show ((w.heap.modify g' (onCells (putCells enc 0 (ys ++ pad).toArray))) ++ os)[b]? = _
   rw [Array.getElem?_append_left (by simpa using hb)]
  refine ⟨⟨by simp,.inr ⟨g',cap',putCells enc 0 (ys ++ pad).toArray cur,rfl,hg,?_,by omega,hcm,?_,?_⟩⟩,?_⟩
  ·rw [hget g' hlt,Array.getElem?_modify,if_pos rfl,hh]
   rfl
  ·unfold putCells
   rw [Array.size_mapIdx,hcs]
  ·apply List.ext_getElem?
   intro t
   rcases Nat.lt_or_ge t ys.length with ht | ht
   ·have hc:t < cur.size:=by rw [hcs];omega
    rw [List.getElem?_take,if_pos (by omega),Array.getElem?_toList]
    unfold putCells
    rw [Array.getElem?_mapIdx,Array.getElem?_eq_getElem hc]
    simp only [Option.map_some]
    rw [if_pos ⟨Nat.zero_le _,by simp;omega⟩]
    simp [ht,List.getElem?_append_left]
   ·rw [List.getElem?_eq_none (by simp;omega),List.getElem?_eq_none (by simp;omega)]
  ·refine ⟨rfl,rfl,rfl,?_,fun b hb hne=>?_⟩
   ·show w.heap.size≤((w.heap.modify g' (onCells (putCells enc 0 (ys ++ pad).toArray))) ++ os).size
    simp
   ·rw [hget b hb,Array.getElem?_modify,if_neg (fun h=>hne (by rw [h]))]
theorem own_holds {w:World} {base cap g:Nat} {xs:List Int} (ho:w.ownsRow base 2 1 (.slice (some ⟨g,0,none⟩) xs.length cap) xs.length (xs.map (Value.int .i64))) :
  Holds (Value.int .i64) w g 0 xs.toArray∧g < w.heap.size∧base≤g∧xs.length≤cap∧∃ cur,w.heap[g]? = some (.cells cur 2 (0,0)):=by
 obtain ⟨_,h | ⟨g',cap',cur,hv,hg,hh,hnc,hcm,hcs,htk⟩⟩:=ho
 ·exact absurd h.1 (by simp)
 ·obtain rfl:g' = g:=by injection hv with h1 _ _;injection h1 with h1;injection h1 with h1;exact h1.symm
  obtain rfl:cap' = cap:=by injection hv with _ _ h3;exact h3.symm
  refine ⟨fun j hj=>?_,blk_lt hh,hg,hnc,?_⟩
  ·have hj':j < xs.length:=by simpa using hj
   rw [Nat.zero_add]
   refine ⟨?_,blk_frozen hh j⟩
   rw [blk_cell hh j]
   have e1:cur[j]? = (cur.toList.take (xs.length * 1))[j]?:=by rw [List.getElem?_take,if_pos (by omega),Array.getElem?_toList]
   rw [e1,htk,List.getElem?_map,List.getElem?_eq_getElem hj']
   simp [hj']
  ·exact ⟨cur,hh⟩
/-! ### slices.Compact -/
theorem eq_grow_empty (w:World):w=grow w #[]:=(grow_empty w).symm
theorem compact_any {w:World} {base:Nat} {v:Value} {xs:List Int} (ho:w.ownsRow base 2 1 v xs.length (xs.map (Value.int .i64))) (hsz:xs.length < 4611686018427387904) :
  Calls Tryz.prog 50 #[v] w fun e w'=>∃ v',e = .returned v'∧w'.ownsRow base 2 1 v' (dedup xs).length ((dedup xs).map (Value.int .i64))∧Below base w w':=by
 have ho':=ho
 obtain ⟨hlen,hv | ⟨g,cap,cur,hv,hg,hh,hnc,_⟩⟩:=ho'
 ·obtain ⟨rfl,hn⟩:=hv
  obtain rfl:xs = []:=List.eq_nil_of_length_eq_zero hn
  go_enter Tryz.func50,Tryz.ntmps50
  go_wp2
  go_ret
  exact ⟨_,rfl,ho,Below.refl _ _⟩
 ·subst hv
  obtain ⟨hH,hlt,_⟩:=own_holds ho
  have hcon:=AnyE.slices_Compact (P:=Tryz.prog) Tryz.compInt (Value.int .i64) (fun _=>rfl) (EqlAt.intD _ _ _) (NeqAt.intD _ _ _) 0 (fun w=>by kernel_rfl) g 0 cap xs.toArray w hH (by simp;omega) (by simpa using hnc)
  change Calls Tryz.prog 50 _ _ _ at hcon
  have ea:xs.toArray.size=xs.length:=by simp
  rw [ea] at hcon
  refine hcon.mono ?_
  rintro e w' ⟨he,q,rfl⟩
  rw [compactUpTo_dedup] at he ⊢
  rw [eq_grow_empty (putRow _ _ _ _ _)]
  have hle:=dedup_le xs
  obtain ⟨h1,h2⟩:=own_put (enc:=Value.int .i64) (dedup xs) (List.replicate (xs.length - (dedup xs).length) 0) ho (by simp;omega) q #[]
  exact ⟨_,he,h1,Below.grown (Below.refl _ _) h2 (by omega) (fun k e=>by cases e;exact hg)⟩
/-! ### slices.DeleteFunc at the map's closure -/
theorem wfW (x:Int):(Lit.int .i64 (wrap64 x)).wf=true:=by
 have h1:(-9223372036854775808:Int)≤wrap64 x:=by unfold wrap64;omega
 have h2:wrap64 x≤9223372036854775807:=by unfold wrap64;omega
 simp only [Lit.wf,Bool.and_eq_true]
 exact ⟨decide_eq_true h1,decide_eq_true h2⟩
/-- The map in block mb says just of the numbers of a list that they are in it. -/
def Says (w:World) (mb:Nat) (left:List Int):Prop:=∃ (n:Nat) (D:DataW Unit),n≤left.length∧w.ownsMap Tryz.prog 2 (plainElem Tryz.prog 4) mb n D∧IsMap D∧∀ x,D.atKey (.int .i64 (wrap64 x)) (.lit (.bool false)) = .lit (.bool (left.contains (wrap64 x)))
theorem key2:Keyed Tryz.prog 2:=int_keyed Tryz.underlying2
theorem keyW (x:Int):keyOf Tryz.prog 2 (.int .i64 (wrap64 x))=some (.int .i64 (wrap64 x)):=keyOf_int_mk Tryz.underlying2 (wfW x)
theorem zero4 (w:World):(zeroValue 4).run Tryz.prog w = .ok (.bool false) w:=by kernel_rfl
set_option maxRecDepth 100000 in
theorem Says.look {w:World} {mb:Nat} {left:List Int} (h:Says w mb left) (x:Int):(Instr.lookup 94 (.map (some mb)) (.int .i64 (wrap64 x)) false).run Tryz.prog w = .ok (.bool (left.contains (wrap64 x))) w:=by
 obtain ⟨n,D,hn,ho,hD,hat⟩:=h
 obtain ⟨v,ps,hrun,hv⟩:=ho.lookup key2 Tryz.underlying94 (zero4 w) (plainElem_bool Tryz.underlying4 false) (keyW x)
 rw [hat x] at hv
 have:v = .bool (left.contains (wrap64 x)):=by
  unfold plainElem at hv
  rw [Tryz.underlying4] at hv
  cases v <;> simp at hv
  rw [hv.1]
  simp
 rw [hrun,this]
theorem Says.later {w W:World} {mb:Nat} {left:List Int} (h:Says w mb left) (hb:W.heap[mb]? = w.heap[mb]?):Says W mb left:=by
 obtain ⟨n,D,hn,⟨es,clock,h1,h2⟩,r⟩:=h
 exact ⟨n,D,hn,⟨es,clock,hb.trans h1,h2⟩,r⟩
theorem Says.lt {w:World} {mb:Nat} {left:List Int} (h:Says w mb left):mb < w.heap.size:=by
 obtain ⟨n,D,_,ho,_⟩:=h
 exact ho.lt
theorem Says.made (w:World):Says (w.alloc (.map #[] 0)) w.heap.size [] :=
 ⟨0,_,Nat.le_refl _,World.ownsMap_made _ _ _ _,isMap_empty,fun x=>rfl⟩
theorem Says.put {w':World} {mb n:Nat} {D:DataW Unit} {pre:List Int} {t:Int} (ht:wrap64 t=t) (hn:n≤pre.length) (hD:IsMap D) (hat:∀ x,D.atKey (.int .i64 (wrap64 x)) (.lit (.bool false)) = .lit (.bool (pre.contains (wrap64 x))))
  (ho:w'.ownsMap Tryz.prog 2 (plainElem Tryz.prog 4) mb (n + 1) (D.put (.int .i64 t) (.lit (.bool true)))):Says w' mb (pre ++ [t]):=by
 refine ⟨n + 1,_,by simp;omega,ho,hD.put _ _,fun x=>?_⟩
 by_cases e:wrap64 x=t
 ·rw [e,atKey_put_same (k:=Lit.int .i64 t) hD (by show True;trivial)]
  simp
 ·rw [atKey_put_other (by intro h;injection h with _ h;exact e h),hat x]
  simp [e]
theorem ne_row {w:World} {base n e size mb:Nat} {v:Value} {xs:List Value} {left:List Int} (ho:w.ownsRow base e size v n xs) (hs:Says w mb left):some mb≠v.ownBlock:=by
 obtain ⟨n',D,_,⟨es,clock,h1,_⟩,_⟩:=hs
 obtain ⟨_,⟨rfl,_⟩ | ⟨g,cap,cur,rfl,hg,hh,_⟩⟩:=ho
 ·simp [Value.ownBlock]
 ·intro h
  have:mb=g:=by simpa [Value.ownBlock] using h
  subst this
  rw [hh] at h1
  cases h1
/-- The closure: is a number among those that are left out? -/
theorem closure_in {w:World} {bx mb:Nat} {left:List Int} (hx:w.heap[bx]? = some (.cells #[.map (some mb)] 94 (0,0))) (hs:Says w mb left) (x:Int) :
  Calls Tryz.prog 48 #[.int .i64 (wrap64 x),.pointer (some ⟨bx,0,none⟩)] w fun e w'=>e = .returned (.bool (left.contains (wrap64 x)))∧∃ q,w' = w.drewN q:=by
 have hc:w.cell? ⟨bx,0,none⟩=some (.map (some mb)):=(blk_cell hx 0).trans rfl
 have hl:=hs.look x
 go_enter Tryz.func48,Tryz.ntmps48
 go_wp2
 go_ret
 exact ⟨by simp,0,rfl⟩
def encW (x:Int):Value:=.int .i64 (wrap64 x)
theorem delete_any {w:World} {base:Nat} {v:Value} {xs left:List Int} {bx mb:Nat} (ho:w.ownsRow base 2 1 v xs.length (xs.map (Value.int .i64))) (hsz:xs.length < 4611686018427387904) (hr:∀ x∈xs,wrap64 x=x)
  (hx:w.heap[bx]? = some (.cells #[.map (some mb)] 94 (0,0))) (hs:Says w mb left) :
  Calls Tryz.prog 47 #[v,.func (.func 48) #[] #[.pointer (some ⟨bx,0,none⟩)]] w fun e w'=>∃ v',e = .returned v'∧w'.ownsRow base 2 1 v' (xs.filter fun x=>!left.contains x).length ((xs.filter fun x=>!left.contains x).map (Value.int .i64))∧Below base w w':=by
 have eg:∀ args w,(callFunc 48 args).run Tryz.prog w = .ok (.enter 48 args) w:=enters_of Tryz.func48 (by kernel_rfl) rfl
 have ho':=ho
 obtain ⟨hlen,hv | ⟨g,cap,cur,hv,hg,hh,hnc,_⟩⟩:=ho'
 ·obtain ⟨rfl,hn⟩:=hv
  obtain rfl:xs = []:=List.eq_nil_of_length_eq_zero hn
  have hi:Calls Tryz.prog 62 #[.slice none 0 0,.func (.func 48) #[] #[.pointer (some ⟨bx,0,none⟩)]] w fun e w'=>e = .returned (.int .i64 (-1))∧w' = w:=by
   go_enter Tryz.func62,Tryz.ntmps62
   go_wp2
   refine wp_loop_rounds 1 ?_
   rw [rounds_succ]
   go_wp2
   go_ret
   exact ⟨rfl,rfl⟩
  go_enter Tryz.func47,Tryz.ntmps47
  go_wp2_with (go_at_call 62;refine hi.mono ?_;rintro e w' ⟨rfl,rfl⟩)
  go_ret
  exact ⟨_,rfl,ho,Below.refl _ _⟩
 ·subst hv
  obtain ⟨hH,hlt,_,_,cur',hh'⟩:=own_holds ho
  have hbx:bx≠g:=by
   rintro rfl
   rw [hh] at hx
   cases hx
  have hmb:mb≠g:=by
   rintro rfl
   obtain ⟨n,D,_,⟨es,clock,h1,_⟩,_⟩:=hs
   rw [hh] at h1
   cases h1
  have hHw:Holds encW w g 0 xs.toArray:=by
   intro j hj
   have hj':j < xs.length:=by simpa using hj
   have h1:=hH j hj
   rw [getElem!_pos xs.toArray j (by simpa using hj')] at h1 ⊢
   refine ⟨?_,h1.2⟩
   unfold encW
   rw [hr _ (by simp)]
   exact h1.1
  have hcon:=AnyE.slices_DeleteFunc (P:=Tryz.prog) Tryz.delInt encW (fun _=>rfl) (fun x=>left.contains (wrap64 x)) 48 #[.pointer (some ⟨bx,0,none⟩)] eg 0 (fun w=>by kernel_rfl) g 0 cap xs.toArray w
   (fun W x hb=>closure_in ((hb.block _ (blk_lt hx)).trans hx) (hs.later (hb.block _ hs.lt)) x)
   (fun n os dk x hd=>by
    have old:∀ b,b < w.heap.size→b≠g→(sortWorld encW w g 0 n dk os).heap[b]? = w.heap[b]?:=by
     intro b hb hne
     show ((w.heap.modify g (onCells (putCells encW 0 dk))) ++ os)[b]? = _
     rw [Array.getElem?_append_left (by simpa using hb),Array.getElem?_modify,if_neg (fun e=>hne e.symm)]
    exact closure_in ((old _ (blk_lt hx) hbx).trans hx) (hs.later (old _ hs.lt hmb)) x)
   hHw (by simp;omega) (by simpa using hnc)
  change Calls Tryz.prog 47 _ _ _ at hcon
  have ea:xs.toArray.size=xs.length:=by simp
  have ef:(xs.filter fun x=>!left.contains (wrap64 x))=xs.filter fun x=>!left.contains x:=List.filter_congr fun x hx=>by rw [hr x hx]
  rw [ea] at hcon
  refine hcon.mono ?_
  rintro e w' ⟨he,q,rfl⟩
  simp only [ef] at he ⊢
  rw [eq_grow_empty (putRow _ _ _ _ _)]
  have hle:(xs.filter fun x=>!left.contains x).length≤xs.length:=List.length_filter_le _ _
  obtain ⟨h1,h2⟩:=own_put (enc:=encW) (xs.filter fun x=>!left.contains x) (List.replicate (xs.length - (xs.filter fun x=>!left.contains x).length) 0) ho (by rw [List.length_replicate];omega) q #[]
  refine ⟨_,he,?_,Below.grown (Below.refl _ _) h2 (by omega) (fun k e=>by cases e;exact hg)⟩
  have em:(xs.filter fun x=>!left.contains x).map encW=(xs.filter fun x=>!left.contains x).map (Value.int .i64):=List.map_congr_left fun x hx=>by
   unfold encW
   rw [hr x (List.mem_filter.1 hx).1]
  rw [em] at h1
  exact h1
end Go.Proofs.YtkgkblmeafhkfaaGreat.Orig

-- Written by a program of the session (wip/tools).
import Derived.Test.YtkgkblmeafhkfaaGreatPHx0
import Derived.Test.YtkgkblmeafhkfaaGreatPHx1
namespace Go.Proofs.YtkgkblmeafhkfaaGreat.PH
open Go.RowKit Go.Proofs.YtkgkblmeafhkfaaGreatW.PrintWords Go.Proofs.YtkgkblmeafhkfaaGreatW.PrintLast Go.Proofs.YtkgkblmeafhkfaaGreatW.PrintMore
attribute [local go_sem] max2_int min2_int max_two min_two max_three min_three max_four min_four   -- for this text's walks alone
set_option linter.unusedVariables false
set_option linter.unusedSimpArgs false

attribute [local go_sem high] eqA55
def series_Instance_compare.j0:Nat→Bool→Int→Int→Int→Bool→Int→Int→Int→Bool→Option (Int)
 | 0,_,_,_,_,_,_,_,_,_=>none
 | k + 1,x5,y0,y1,y2,y3,y4,y5,y6,y7=>if x5=true then (some (-1)) else (if (y0 == y4 && (y1 == y5 && (y2 == y6 && (y3 == y7))))=true then (some 0) else (some 1))
def series_Instance_compare.f (k:Nat) (a0_0 a0_1 a0_2:Int) (a0_3:Bool) (a1_0 a1_1 a1_2:Int) (a1_3:Bool):Option (Int):=if a0_1 < a1_1 then (series_Instance_compare.j0 k true a0_0 a0_1 a0_2 a0_3 a1_0 a1_1 a1_2 a1_3) else (if a0_1=a1_1 then (series_Instance_compare.j0 k (decide (a0_0 < a1_0)) a0_0 a0_1 a0_2 a0_3 a1_0 a1_1 a1_2 a1_3) else (series_Instance_compare.j0 k false a0_0 a0_1 a0_2 a0_3 a1_0 a1_1 a1_2 a1_3))
set_option maxHeartbeats 8000000 in
set_option maxRecDepth 100000 in
theorem series_Instance_compare.calls (k:Nat) (a0_0 a0_1 a0_2:Int) (a0_3:Bool) (a1_0 a1_1 a1_2:Int) (a1_3:Bool) (r:Int) (w:World) (h:series_Instance_compare.f k a0_0 a0_1 a0_2 a0_3 a1_0 a1_1 a1_2 a1_3=some r) :
  Calls Tryz.prog 44 #[.agg #[.int .i64 a0_0,.int .i64 a0_1,.int .i64 a0_2,.bool a0_3],.agg #[.int .i64 a1_0,.int .i64 a1_1,.int .i64 a1_2,.bool a1_3]] w fun e w'=>e = .returned (.int .i64 r)∧Below w.heap.size w w':=by
 have hu55:=Tryz.underlying55;have HB:=ad_ (Below.refl w.heap.size w);have H:(if a0_1 < a1_1 then (series_Instance_compare.j0 k true a0_0 a0_1 a0_2 a0_3 a1_0 a1_1 a1_2 a1_3) else (if a0_1=a1_1 then (series_Instance_compare.j0 k (decide (a0_0 < a1_0)) a0_0 a0_1 a0_2 a0_3 a1_0 a1_1 a1_2 a1_3) else (series_Instance_compare.j0 k false a0_0 a0_1 a0_2 a0_3 a1_0 a1_1 a1_2 a1_3)))=some r:=h;clear h;have HC3:=Aside0.mk H;clear H
 go_enter Tryz.func44,Tryz.ntmps44
 go_upto_region 1 with (first | ((with_reducible refine gate_dst (N:=2) rfl ?_);refine bx_ 2 55 ?_;intro gb194 hg w4 hbox hb;have BK194:=ad_ (hbox);have GW194:=gw_ w hg;have GE194:=GW194;replace HB:=hbb_ hb;clear hb hbox hg) | ((with_reducible refine gate_dst (N:=3) rfl ?_);refine bx_ 3 55 ?_;intro gb195 hg w5 hbox hb;have BK195:=ad_ (hbox);have GW195:=gw_ w hg;have GE195:=GW195;replace HB:=hbb_ hb;have NB194_195:=nlt_ hg BK194;have NB195_194:=ngt_ hg BK194;replace BK194:=bkb_ BK194 hb;clear hb hbox hg))
 (try simp only [Act.put,List.setIfInBounds_toArray,List.set_cons_zero,List.set_cons_succ])
 go_cut [5] (fun v5 wc=>∃ (kq:Nat) (x5_2:Bool),v5 = .bool x5_2∧Aside0 (series_Instance_compare.j0 kq x5_2 a0_0 a0_1 a0_2 a0_3 a1_0 a1_1 a1_2 a1_3=some r)∧Aside0 (kq≤k)∧Aside0 (wc.heap[gb194]? = some (.cells #[.int .i64 a0_0,.int .i64 a0_1,.int .i64 a0_2,.bool a0_3] 55 (0,0)))∧Aside0 (wc.heap[gb195]? = some (.cells #[.int .i64 a1_0,.int .i64 a1_1,.int .i64 a1_2,.bool a1_3] 55 (0,0)))∧Aside0 (Below w.heap.size w wc))
 case first =>
  have H:=HC3.out;clear HC3
  replace H:=dc_ H;rcases H with ⟨H,c6b0⟩|⟨H,c6b0⟩
  ·(first | rw [c6b0] | (simp only [i64_w,i32_w];rw [c6b0]) | skip)
   have H':=ad_ H;clear H;have hnb7:=NB194_195.out;have hnc7:=NB195_194.out;have hcz8_:=cells4_ BK194.out;have hcz9_:=cells4_ BK195.out
   go_wp2
   go_meet
   case rel=>exact ⟨_,(true),val_,H',⟨by first | omega | exact Nat.le_refl _⟩,⟨blo_ BK194.out⟩,⟨blo_ BK195.out⟩,⟨belg_⟩⟩
  ·(first | rw [c6b0] | (simp only [i64_w,i32_w];rw [c6b0]) | skip)
   replace H:=de_ H;rcases H with ⟨H,-,c10b0,c10b1⟩|⟨H,c10,c10b0,c10b1⟩
   ·have H':=ad_ H;clear H;have hnb11:=NB194_195.out;have hnc11:=NB195_194.out;have hcz12_:=cells4_ BK194.out;have hcz13_:=cells4_ BK195.out
    go_wp2
    go_meet
    case rel=>exact ⟨_,(decide (a0_0 < a1_0)),val_,H',⟨by first | omega | exact Nat.le_refl _⟩,⟨blo_ BK194.out⟩,⟨blo_ BK195.out⟩,⟨belg_⟩⟩
   ·have H':=ad_ H;clear H;have hnb14:=NB194_195.out;have hnc14:=NB195_194.out;have hcz15_:=cells4_ BK194.out;have hcz16_:=cells4_ BK195.out
    go_wp2
    go_meet
    case rel=>exact ⟨_,(false),val_,H',⟨by first | omega | exact Nat.le_refl _⟩,⟨blo_ BK194.out⟩,⟨blo_ BK195.out⟩,⟨belg_⟩⟩
 case rest =>
  clear HC3;obtain ⟨kq,x5_2,rfl,HA,HJ2,BK194,BK195,HB⟩:=hcut
  cases kq with
  | zero=>exact absurd HA.out (by simp [series_Instance_compare.j0])
  | succ kj2 =>
   have H:=HA.out;clear HA
   simp only [series_Instance_compare.j0] at H
   replace H:=db_ H;rcases H with ⟨rfl,H⟩|⟨rfl,H⟩
   ·obtain rfl:=Option.some.inj H
    go_wp2
    go_ret
    exact ⟨ret_,belg_⟩
   ·by_cases c18:(a0_0 == a1_0 && (a0_1 == a1_1 && (a0_2 == a1_2 && (a0_3 == a1_3))))=true
    ·rw [if_pos c18] at H;have c18b0:(a0_0 == a1_0 && (a0_1 == a1_1 && (a0_2 == a1_2 && (a0_3 == a1_3))))=true:=c18
     (try (have c18b1:decide (a0_0=a1_0 && (a0_1 == a1_1 && (a0_2 == a1_2 && (a0_3 == a1_3))))=true:=by simpa using c18))
     (try (have c18b2:(a0_0 == a1_0 && (a0_1 == a1_1 && (a0_2 == a1_2 && (a0_3 == a1_3))))=true:=by simpa using c18))
     clear c18;obtain rfl:=Option.some.inj H;have hnb19:=NB194_195.out;have hnc19:=NB195_194.out;have hcz20_:=cells4_ BK194.out;have hcz21_:=cells4_ BK195.out
     go_wp2
     go_ret
     exact ⟨ret_,belg_⟩
    ·rw [if_neg c18] at H
     have c18b0:(a0_0 == a1_0 && (a0_1 == a1_1 && (a0_2 == a1_2 && (a0_3 == a1_3))))=false:=by simpa using c18
     (try (have c18b1:decide (a0_0=a1_0 && (a0_1 == a1_1 && (a0_2 == a1_2 && (a0_3 == a1_3))))=false:=by simpa using c18))
     (try (have c18b2:(a0_0 == a1_0 && (a0_1 == a1_1 && (a0_2 == a1_2 && (a0_3 == a1_3))))=false:=by simpa using c18))
     (try (have c18b3:¬(a0_0=a1_0 && (a0_1 == a1_1 && (a0_2 == a1_2 && (a0_3 == a1_3)))):=by simpa using c18))
     clear c18;obtain rfl:=Option.some.inj H;have hnb22:=NB194_195.out;have hnc22:=NB195_194.out;have hcz23_:=cells4_ BK194.out;have hcz24_:=cells4_ BK195.out
     go_wp2
     go_ret
     exact ⟨ret_,belg_⟩
theorem series_Instance_43.reps {w:World} {base:Nat} {ok:Nat→Prop} {xs:List S55} {inner:List Value} (h:Reps (k55.M w base ok) k55.sz xs inner):Reps (fun x cs=>cs=Sort.encI x) 4 (xs.map fun x=>(x.f0,x.f1,x.f2,x.f3)) inner:=by
 refine ⟨by rw [List.length_map];exact h.1,fun j p hp=>?_⟩
 rw [List.getElem?_map] at hp
 cases e:xs[j]? with
 | none=>rw [e] at hp;cases hp
 | some x =>
  rw [e] at hp
  simp only [Option.map_some,Option.some.injEq] at hp
  subst hp;exact k55_openM (h.2 j x e)
theorem series_Instance_43.unreps {w:World} {base:Nat} {ok:Nat→Prop} {ys:List (Int×Int×Int×Bool)} {inner:List Value} (h:Reps (fun x cs=>cs=Sort.encI x) 4 ys inner):Reps (k55.M w base ok) k55.sz (ys.map fun p=>(⟨p.1,p.2.1,p.2.2.1,p.2.2.2⟩:S55)) inner:=by
 refine ⟨by rw [List.length_map];exact h.1,fun j p hp=>?_⟩
 rw [List.getElem?_map] at hp
 cases e:ys[j]? with
 | none=>rw [e] at hp;cases hp
 | some x =>
  rw [e] at hp
  simp only [Option.map_some,Option.some.injEq] at hp
  subst hp
  have:=h.2 j x e
  rw [show k55.sz=4 from rfl,this];exact k55_mkM _ _ _ (⟨x.1,x.2.1,x.2.2.1,x.2.2.2⟩:S55)
/-- The order of instances. -/
def series_Instance_43.lt (x y:S55):Bool:=decide (x.f1 < y.f1) || (x.f1 == y.f1 && decide (x.f0 < y.f0))
theorem series_Instance_43.swo:Go.Sort.SWO series_Instance_43.lt:=by
 have hi:∀ x y,series_Instance_43.lt x y=true ↔ x.f1 < y.f1∨(x.f1=y.f1∧x.f0 < y.f0):=fun x y=>by simp [series_Instance_43.lt]
 have hn:∀ x y,series_Instance_43.lt x y=false ↔ ¬(x.f1 < y.f1∨(x.f1=y.f1∧x.f0 < y.f0)):=fun x y=>by rw [← hi];simp
 exact ⟨fun x=>by rw [hn];omega,fun x y z h1 h2=>by rw [hi] at *;omega,fun x y z h1 h2=>by rw [hn] at *;omega⟩
/-- Sorted instances, where no two have one Original. -/
def series_Instance_43.f (l:List S55):Option (List S55):=if l.length < 4611686018427387904∧(l.map (·.f0)).Pairwise (·≠·) then some (Sort.isort series_Instance_43.lt l) else none
theorem series_Instance_43.uniq {xs ys:List S55} (hd:(xs.map (·.f0)).Pairwise (·≠·)) (hp:ys.Perm xs) (hs:ys.Pairwise (fun x y=>series_Instance_43.lt y x=false)):ys=Sort.isort series_Instance_43.lt xs:=by
 refine Sort.isort_unique series_Instance_43.swo hp hs (fun a b ha hb h1 h2=>?_)
 have hn:∀ x y,series_Instance_43.lt x y=false ↔ ¬(x.f1 < y.f1∨(x.f1=y.f1∧x.f0 < y.f0)):=fun x y=>by rw [Bool.eq_false_iff];simp [series_Instance_43.lt]
 rw [hn] at h1 h2
 have e:a.f0=b.f0:=by omega
 have hd':xs.Pairwise (fun x y=>x.f0≠y.f0):=by rwa [List.pairwise_map] at hd
 exact Sort.same_of_apart hd' ha hb e
theorem series_Instance_43.calls (P0_:Nat→Prop) (u9000_:Value) (l0 r:List S55) (w0 w:World) (hB:Below w0.heap.size w0 w) (ho0:Kd.R k55 55 w w0.heap.size P0_ u9000_ l0) (h:series_Instance_43.f l0=some r) :
  Calls Tryz.prog 43 #[u9000_,.func (.func 44) #[] #[]] w fun e w'=>e = .returned (.tuple #[])∧Kd.R k55 55 w' w0.heap.size (fun k_=>(P0_ k_∨w.heap.size≤k_)) u9000_ r∧Below w0.heap.size w0 w'∧Kept w w' (fun k_=>P0_ k_):=by
 unfold series_Instance_43.f at h
 by_cases c:l0.length < 4611686018427387904∧(l0.map (·.f0)).Pairwise (·≠·)
 ·rw [if_pos c] at h;obtain rfl:=Option.some.inj h;obtain ⟨hsz,hd⟩:=c;obtain ⟨h0,inner,ho,hr⟩:=ho0;have ho':=ho;obtain ⟨hlen,hv | ⟨g,cap,cur,hv,hg,_⟩⟩:=ho'
  ·obtain ⟨rfl,hn⟩:=hv;obtain rfl:l0 = []:=List.eq_nil_of_length_eq_zero hn
   refine (Sort.sortI_none none 0).mono ?_
   rintro e w' ⟨he,rfl⟩;exact ⟨he,Kd.R_mono (show Kd.R _ _ _ _ P0_ _ _ from ⟨h0,inner,ho,hr⟩) (fun _ h=>.inl h),hB,Kept.refl _ _⟩
  ·subst hv;have e1:(l0.map fun x=>(x.f0,x.f1,x.f2,x.f3)).length=l0.length:=List.length_map ..;have hc:=Sort.sortI_own (xs:=l0.map fun x=>(x.f0,x.f1,x.f2,x.f3)) (by rw [e1];exact ho) (series_Instance_43.reps hr) (by rw [e1];exact hsz);rw [e1] at hc
   refine hc.mono ?_
   rintro e w' ⟨he,ys,inner',hp,hs,ho2,hr2,hgr⟩
   have hl:ys.length=l0.length:=by rw [hp.length_eq,e1]
   have hp2:(ys.map fun p=>(⟨p.1,p.2.1,p.2.2.1,p.2.2.2⟩:S55)).Perm l0:=by
    have:=hp.map (fun p:Int×Int×Int×Bool=>(⟨p.1,p.2.1,p.2.2.1,p.2.2.2⟩:S55))
    rwa [List.map_map,show ((fun p:Int×Int×Int×Bool=>(⟨p.1,p.2.1,p.2.2.1,p.2.2.2⟩:S55)) ∘ fun x:S55=>(x.f0,x.f1,x.f2,x.f3))=id from rfl,List.map_id] at this
   have hs2:(ys.map fun p=>(⟨p.1,p.2.1,p.2.2.1,p.2.2.2⟩:S55)).Pairwise (fun x y=>series_Instance_43.lt y x=false):=by
    rw [List.pairwise_map];exact hs
   have hR:Kd.R k55 55 w' w0.heap.size P0_ (.slice (some ⟨g,0,none⟩) l0.length cap) (ys.map fun p=>(⟨p.1,p.2.1,p.2.2.1,p.2.2.2⟩:S55)):=⟨h0,inner',by rw [List.length_map,hl];exact ho2,series_Instance_43.unreps hr2⟩;rw [series_Instance_43.uniq hd hp2 hs2] at hR;exact ⟨he,Kd.R_mono hR (fun _ h=>.inl h),pw_below_grown hB _ hB.size hgr (fun k e=>by cases e;exact hg),Kept.of_grown hgr (Kept.refl _ _) (fun k e=>.inl (h0 k (by cases e;rfl)))⟩
 ·rw [if_neg c] at h
  cases h
end Go.Proofs.YtkgkblmeafhkfaaGreat.PH

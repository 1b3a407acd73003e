/- The statement SeriesInstances: whatever the input, the call returns true, and the input reads as it did. No condition. -/
import Derived.Test.YtkgkblmeafhkfaaGreatSOpen
import Derived.Test.YtkgkblmeafhkfaaGreatRows
import Derived.Test.YtkgkblmeafhkfaaGreatPureSeriesInstances
import Derived.Test.YtkgkblmeafhkfaaGreatPHx30
import Derived.WalkKit
import Derived.ProofKit
import Derived.OpenShut
import Derived.ShutString
import Derived.ChangeOld
import Derived.Below
import Derived.SizedLaws
namespace Go.Proofs.YtkgkblmeafhkfaaGreat.seriesInstances
open Go.ChangeShapes Go.WideShapes Go.ChangeAt Go.RowKit
open Go.ChangeMaps (open_string shut_string)
open Go.Proofs.YtkgkblmeafhkfaaGreat.PH Go.Proofs.YtkgkblmeafhkfaaGreat.SOpen Go.Proofs.YtkgkblmeafhkfaaGreatW.PrintWords Go.Proofs.YtkgkblmeafhkfaaGreatW.PrintLast Go.Proofs.YtkgkblmeafhkfaaGreatW.PrintMore
set_option linter.unusedVariables false
theorem own:ownKnob Tryz.prog.godebug=none:=by kernel_rfl
theorem laidOut:laidOutB Tryz.prog=true:=by kernel_rfl
set_option maxRecDepth 100000 in
theorem lifted (os:Os) (started:os.Started) (H:Type) (enc:TypeId×Value→H) :
  ReturnsInHanded {} Tryz.checked os 4 .any (Rows.seriesInstancesSpec.pre6 enc Tryz.prog Tryz.f4 Rows.seriesInstancesRow.domain false) (Rows.seriesInstancesSpec.post enc Tryz.prog Tryz.f4 false true false false):=by
 refine returnsInHanded_of_change_sized (C:=Tryz.checked) own started (by kernel_rfl) Tryz.func4
  (ChangeSpec.witness6 (enc:=enc) (C:=Tryz.checked) false ⟨#[],#[.agg #[.int .i64 0,.int .i64 0,.bool false,.int .i64 0,.int .i64 0,.int .i64 0,.int .i64 0,.slice none 0 0,.slice none 0 0,.slice none 0 0,.slice none 0 0,.slice none 0 0,.slice none 0 0],.int .i64 0,.int .i64 0],[]⟩ 8 (by kernel_rfl) (by kernel_rfl) (by kernel_rfl) (by kernel_rfl)) ?_
 intro W base args ds gs before hval0 hW hcnd hsz0 _
 have hval:∀ (j:Nat) t v,Tryz.f4.params[j]? = some t→args[j]? = some v→Value.okWide Tryz.prog W .any base t v:=hval0
 have hW':=hW
 obtain ⟨p,q,hA0,hV,rfl,hfz,hnd⟩:=hW
 have hA:DataW.TrodAll enc Tryz.prog W 0 (fun _=>true) true Tryz.f4.params.toList args.toList ds p:=hA0
 rw [Tryz.params4] at hA hval
 obtain ⟨v0,vs0,d0,ds0,p0,q0,hargs,rfl,rfl,h0,r0⟩:=trodAll_cons hA
 obtain ⟨v1,vs1,d1,ds1,p1,q1,rfl,rfl,rfl,h1,r1⟩:=trodAll_cons r0
 obtain ⟨v2,vs2,d2,ds2,p2,q2,rfl,rfl,rfl,h2,r2⟩:=trodAll_cons r1
 obtain ⟨rfl,rfl,rfl⟩:=trodAll_nil r2
 obtain rfl:args = #[v0,v1,v2]:=by cases args;simp_all
 obtain ⟨rfl,rfl⟩:=trodVars_none hV
 have li0:Opener.Light Tryz.prog 29 d0:=fun n hn=>of_decide_eq_true (List.all_eq_true.1 hsz0 n (DataW.weights_mem_each (j:=0) (t:=29) rfl rfl n hn))
 have k0:=h0
 have lt0:∀ x∈p0,x.block < W.heap.size:=by obtain ⟨m,hm⟩:=k0;exact DataW.trod_lt m _ _ _ hm
 obtain ⟨cz0,rfl,_⟩:=okWide_struct Tryz.underlying29 (hval 0 29 v0 rfl rfl)
 obtain ⟨S0,rfl,K0⟩:∃ S:Ser,cz0=S.cells.toArray∧S.Ok W:=by
  obtain ⟨fuel,hf⟩:=h0
  obtain ⟨S,e,hS⟩:=SOpen.series_of hf li0
  refine ⟨S,?_,hS⟩
  have e':cz0.toList=S.cells:=by simpa [Value.cells] using e
  rw [← Array.toArray_toList (xs:=cz0),e']
 obtain ⟨a1,rfl,rfl,rfl,w1⟩:=open_int Tryz.underlying2 (hval 1 2 v1 rfl rfl) h1
 obtain ⟨a2,rfl,rfl,rfl,w2⟩:=open_int Tryz.underlying2 (hval 2 2 v2 rfl rfl) h2
 clear hA0 hval0 hsz0
 have sh:=K0.short
 obtain ⟨k,hk⟩:=PureInstances.pure S0.s0 S0.s1 S0.s2 S0.r0 S0.r1 S0.r2 S0.r3 S0.x7.l S0.x8.l S0.x9.l S0.x10.l S0.x11.l S0.x12.l sh (by have:=K0.k7.n;have:=K0.k8.n;omega) a1 a2
 refine (pl23_SeriesInstances.calls k S0.s0 S0.s1 S0.s2 S0.r0 S0.r1 S0.r2 S0.r3 S0.x7.A S0.x7.c S0.x7.l S0.x8.A S0.x8.c S0.x8.l S0.x9.A S0.x9.c S0.x9.l S0.x10.A S0.x10.c S0.x10.l S0.x11.A S0.x11.c S0.x11.l S0.x12.A S0.x12.c S0.x12.l a1 a2 true W K0.k7.r K0.k7.c K0.k8.r K0.k8.c K0.k9.r K0.k9.c K0.k10.r K0.k10.c K0.k11.r K0.k11.c K0.k12.r K0.k12.c hk).mono fun e W' ⟨he,bel⟩=>?_
 subst he
 exact ⟨_,rfl,_,_,_,[],_,[],hW',trodAll_mk1 (shut_bool Tryz.underlying4 _),(trodAll_cons_mk (Below.trod laidOut (by kernel_rfl) (of_decide_eq_true (by kernel_rfl)) k0 bel lt0) (trodAll_cons_mk (shut_int Tryz.underlying2 w1) (trodAll_cons_mk (shut_int Tryz.underlying2 w2) trodAll_mk0))),rfl,bel.frame _,fun h=>by cases h⟩
theorem over:Rows.seriesInstancesRow.holds Tryz.pinned (OpenSpec.ofChange Rows.seriesInstancesSpec) :=
 OpenClaim.holds_of_wide 4 Tryz.f4 rfl rfl rfl rfl rfl rfl rfl ⟨rfl,rfl,rfl,rfl,rfl⟩ rfl rfl rfl rfl rfl (by kernel_rfl) Tryz.func4 (by kernel_rfl)
  (of_decide_eq_true (by kernel_rfl)) (by unfold Func.isWrapper;first | (rw [if_pos (by decide +kernel)];kernel_rfl) | (rw [if_neg (by decide +kernel)];exact ⟨rfl,rfl⟩))
  (fun os started H enc _=>lifted os started H enc)
end Go.Proofs.YtkgkblmeafhkfaaGreat.seriesInstances
namespace Go.Proofs.YtkgkblmeafhkfaaGreat
/-- The statement. -/
theorem seriesInstances_holds:Rows.SeriesInstancesSaid:=seriesInstances.over
#print axioms seriesInstances_holds
end Go.Proofs.YtkgkblmeafhkfaaGreat

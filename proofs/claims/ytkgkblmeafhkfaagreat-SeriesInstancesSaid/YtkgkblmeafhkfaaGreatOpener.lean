/- Data that came in, read as the kinds of rows: one lemma for each kind of type (whole numbers, bool, string, slice, struct), for any program; what is known of sizes is told (the reach). -/
import Derived.Test.YtkgkblmeafhkfaaGreatWAll
import Derived.Deep.Strs
import Derived.ChangeArms
import Derived.SizedLaws
set_option linter.unusedVariables false
namespace Go.Proofs.YtkgkblmeafhkfaaGreat.Opener
open Go.RowKit Go.Deep Go.Proofs.YtkgkblmeafhkfaaGreatW.PrintWords
theorem add_add (a:Addr) (m n:Nat):(a.add m).add n=a.add (m + n):=by
 unfold Addr.add
 by_cases hm:m=0
 ·subst hm
  rw [if_pos rfl,Nat.zero_add]
 ·rw [if_neg hm,if_neg (by omega:¬m + n=0)]
  by_cases hn:n=0
  ·subst hn
   rw [if_pos rfl,Nat.add_zero]
  ·rw [if_neg hn,Nat.add_assoc]
section
variable {H:Type} (enc:TypeId×Value→H) (P:Program) (w:World) (base:Nat) (spare:Nat→Bool) (held:Bool)
/-- So many elements of so many bytes are within the reach. -/
def Fits (n nb : Nat) : Prop := n * nb ≤ 140737488351232
/-- Within the reach. -/
def Light {H:Type} (P:Program) (t:TypeId) (x:DataW H):Prop:=∀ n,n∈x.weights P t→n≤reachBytes
/-- What is trodden as a t is a value of the kind d, and ok. -/
structure Opens {α:Type} (t:TypeId) (d:Kd α) (ok:α→Prop):Prop where
 sz:d.sz=P.cellsOf t
 run:∀ {fuel:Nat} {cs:List Value} {x:DataW H×List MemPlace},DataW.trod enc P w base spare held fuel t cs=some x→Light P t x.1→∃ a,d.K w a cs∧ok a
/-- The fields from one on: they lie from cell o on, to the end. -/
def Fields {α:Type} (o:Nat) (fs:List Field) (d:Kd α) (ok:α→Prop):Prop :=
 ∀ (n:Nat) (cs:List Value),cs.length=o + d.sz→(∀ f,f∈fs→∃ x,DataW.trod enc P w base spare held n f.type ((cs.drop f.offset).take (P.cellsOf f.type))=some x∧Light P f.type x.1)→∃ a,d.K w a (cs.drop o)∧ok a
end
section
variable {H:Type} {enc:TypeId×Value→H} {P:Program} {w:World} {base:Nat} {spare:Nat→Bool} {held:Bool}
theorem mem_all {e:TypeId}:∀ {ds:List (DataW H)} {j:Nat} {d:DataW H},ds[j]? = some d→∀ n,n∈d.weights P e→n∈DataW.weightsAll P e ds
 | d0 :: ds,0,d,hd,n,hn=>by
  simp only [List.getElem?_cons_zero,Option.some.injEq] at hd
  subst hd
  simp only [DataW.weightsAll,List.mem_append]
  exact .inl hn
 | d0 :: ds,j + 1,d,hd,n,hn=>by
  simp only [List.getElem?_cons_succ] at hd
  simp only [DataW.weightsAll,List.mem_append]
  exact .inr (mem_all hd n hn)
 | [],_,_,hd,_,_=>by simp at hd
theorem open_int {t:TypeId} {k:IntKind} (ht:P.underlying t=some (.int k)) (hc:P.cellsOf t=1):Opens enc P w base spare held t (Kd.int k) (fun n=>(Lit.int k n).wf=true) :=
 ⟨hc.symm,fun h _=>by
  obtain ⟨n,rfl,_,hw⟩:=DataW.trod_int ht h
  exact ⟨n,rfl,hw⟩⟩
theorem open_bool {t:TypeId} (ht:P.underlying t=some .bool) (hc:P.cellsOf t=1):Opens enc P w base spare held t Kd.bool (fun _=>True) :=
 ⟨hc.symm,fun h _=>by
  obtain ⟨n,rfl,_⟩:=DataW.trod_bool ht h
  exact ⟨n,rfl,trivial⟩⟩
theorem open_string {t:TypeId} (ht:P.underlying t=some .string) (hc:P.cellsOf t=1):Opens enc P w base spare held t Kd.string (fun s=>s.size≤140737488351232) :=
 ⟨hc.symm,fun h hl=>by
  obtain ⟨n,rfl,e,hw⟩:=DataW.trod_string ht h
  refine ⟨n,rfl,?_⟩
  have:=hl n.size (by rw [e];simp [DataW.weights])
  unfold reachBytes at this
  omega⟩
theorem open_slice {α:Type} {d:Kd α} {ok:α→Prop} {t e:TypeId} {nb:Nat} (hb:P.bytesOf e=nb) (ht:P.underlying t=some (.slice e)) (hc:P.cellsOf t=1) (he:Opens enc P w base spare held e d ok) :
  Opens enc P w base spare held t (Kd.slice e d) (fun l => Fits l.length nb ∧∀ x,x∈l→ok x) :=
 ⟨hc.symm,fun {fuel cs x} h hlight=>by
  rcases DataW.trod_slice ht h with ⟨rfl,_⟩ | ⟨a,len,cap,elems,rest,n,_,hcs,hx,hb',hl,hm,hlen,hel,hs1,hs2⟩
  ·exact ⟨[],⟨none,0,rfl,Nat.le_refl _,⟨rfl,by simp,fun h=>absurd h (Nat.lt_irrefl _)⟩⟩,by unfold Fits; simp,fun _ h=>by cases h⟩
  ·have hreach:len * nb≤140737488351232:=by
    have:=hlight ((elems.length + rest.length) * P.bytesOf e) (by rw [hx];simp [DataW.weights,ht])
    rw [hb,hlen] at this
    have h2:len * nb≤(len + rest.length) * nb:=Nat.mul_le_mul_right _ (by omega)
    unfold reachBytes at this
    omega
   have allW:∀ (i:Nat) (x:DataW H×List MemPlace),elems[i]? = some x→Light P e x.1:=by
    intro i x hi n hn
    refine hlight n ?_
    rw [hx]
    simp only [DataW.weights,ht,List.mem_cons,List.mem_append]
    refine .inr (.inl ?_)
    exact mem_all (by rw [List.getElem?_map,hi];rfl) n hn
   have each:∀ i,i < len→∃ s,∃ cs',w.cells? base (a.add (i * d.sz)) d.sz=some cs'∧d.K w s cs'∧ok s:=by
    intro i hi
    have h1:=hel i hi
    rw [← he.sz,List.getElem?_eq_getElem (by omega),Option.bind_eq_some_iff] at h1
    obtain ⟨cs',h2,h3⟩:=h1
    obtain ⟨s,h4,h5⟩:=he.run h3 (allW i _ (List.getElem?_eq_getElem (by omega)))
    exact ⟨s,cs',h2,h4,h5⟩
   obtain ⟨l,hll,hl2⟩:∃ l:List α,l.length=len∧∀ i s,l[i]? = some s→∃ cs',w.cells? base (a.add (i * d.sz)) d.sz=some cs'∧d.K w s cs'∧ok s:=by
    clear hel hlen hl hm hcs hs1 hs2 hb' h hreach allW hx hlight
    revert each
    induction len with
    | zero=>intro _;exact ⟨[],rfl,fun i s hs=>by simp at hs⟩
    | succ n ih =>
     intro each
     obtain ⟨l,h1,h2⟩:=ih (fun i hi=>each i (by omega))
     obtain ⟨s,hs⟩:=each n (by omega)
     refine ⟨l ++ [s],by simp [h1],fun i t ht=>?_⟩
     rcases Nat.lt_or_ge i l.length with hi | hi
     ·rw [List.getElem?_append_left hi] at ht
      exact h2 i t ht
     ·rw [List.getElem?_append_right hi] at ht
      have:i - l.length=0:=by
       rcases Nat.eq_zero_or_pos (i - l.length) with h | h
       ·exact h
       ·rw [List.getElem?_eq_none (by simp;omega)] at ht;cases ht
      rw [this] at ht
      simp at ht
      subst ht
      have:i=n:=by omega
      subst this
      exact hs
   refine ⟨l,⟨some a,cap,by rw [hcs,hll],by omega,⟨rfl,by unfold maxLen at hm;omega,fun _=>⟨a,rfl,fun j p hp=>?_⟩⟩⟩,by rw [hll];exact hreach,fun x hx=>?_⟩
   ·obtain ⟨cs',h1,h2,_⟩:=hl2 j p hp
    obtain ⟨_,hlen',hc'⟩:=World.cells?_some h1
    refine ⟨cs',d.K_len h2,h2,fun i u hu=>?_⟩
    have hi:i < d.sz:=by
     rcases Nat.lt_or_ge i d.sz with h | h
     ·exact h
     ·rw [List.getElem?_eq_none (by rw [d.K_len h2];exact h)] at hu;cases hu
    have:=hc' i hi
    rw [hu,add_add] at this
    exact this.symm ▸ rfl
   ·obtain ⟨i,hi,rfl⟩:=List.getElem_of_mem hx
    obtain ⟨_,_,_,h5⟩:=hl2 i l[i] (List.getElem?_eq_getElem hi)
    exact h5⟩
theorem fields_last {α:Type} {d:Kd α} {ok:α→Prop} {f:Field} {o:Nat} (ho:f.offset=o) (hf:Opens enc P w base spare held f.type d ok):Fields enc P w base spare held o [f] d ok:=by
 intro n cs hl h
 obtain ⟨x,hx,hw⟩:=h f List.mem_cons_self
 rw [ho,← hf.sz,List.take_of_length_le (by simp;omega)] at hx
 exact hf.run hx hw
theorem fields_cons {α β:Type} {d:Kd α} {d':Kd β} {ok:α→Prop} {ok':β→Prop} {f:Field} {fs:List Field} {o:Nat} (ho:f.offset=o) (hf:Opens enc P w base spare held f.type d ok) (hr:Fields enc P w base spare held (o + d.sz) fs d' ok') :
  Fields enc P w base spare held o (f :: fs) (Kd.pair d d') (fun x=>ok x.1∧ok' x.2):=by
 intro n cs hl h
 have hl':cs.length=o + (d.sz + d'.sz):=hl
 obtain ⟨x,hx,hw⟩:=h f List.mem_cons_self
 rw [ho,← hf.sz] at hx
 obtain ⟨a,ha,oka⟩:=hf.run hx hw
 obtain ⟨b,hb,okb⟩:=hr n cs (by omega) (fun g hg=>h g (List.mem_cons_of_mem _ hg))
 refine ⟨(a,b),⟨(cs.drop o).take d.sz,cs.drop (o + d.sz),?_,ha,hb⟩,oka,okb⟩
 rw [← List.drop_drop,List.take_append_drop]
theorem open_struct {α β:Type} {d:Kd α} {ok:α→Prop} {t:TypeId} {fs:List Field} (g:β→α) (g':α→β) (hg:∀ a,g (g' a)=a) (ht:P.underlying t=some (.struct fs.toArray)) (hc:d.sz=P.cellsOf t) (hf:Fields enc P w base spare held 0 fs d ok) :
  Opens enc P w base spare held t (Kd.iso d g) (fun b=>ok (g b)) :=
 ⟨hc,fun {fuel cs x} h hlight=>by
  obtain ⟨xs,n,_,he,hl,hlen,hx⟩:=DataW.trod_struct ht h
  obtain ⟨a,ha,hok⟩:=hf n cs (by rw [hl,hc,Nat.zero_add]) (fun f hfm=>by
   obtain ⟨i,hi,rfl⟩:=List.getElem_of_mem hfm
   have h1:=hx i fs[i] (by simp [hi])
   rw [List.getElem?_eq_getElem (by rw [hlen];simpa using hi)] at h1
   refine ⟨_,h1,fun m hm=>hlight m ?_⟩
   rw [he]
   simp only [DataW.weights,ht]
   exact DataW.weights_mem_each (j:=i) (by rw [List.getElem?_map,List.getElem?_eq_getElem hi];rfl) (by rw [List.getElem?_map,List.getElem?_eq_getElem (by rw [hlen];simpa using hi)];rfl) m hm)
  refine ⟨g' a,?_,by rw [hg];exact hok⟩
  show d.K w (g (g' a)) cs
  rw [hg]
  exact ha⟩
end
end Go.Proofs.YtkgkblmeafhkfaaGreat.Opener

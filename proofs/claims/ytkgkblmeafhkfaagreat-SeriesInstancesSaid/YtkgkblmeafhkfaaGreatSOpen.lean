/- A series that came in as data: as the kinds of rows that the printed functions read. -/
import Derived.Test.YtkgkblmeafhkfaaGreatPHx0
import Derived.Test.YtkgkblmeafhkfaaGreatOpener
import Derived.Test.YtkgkblmeafhkfaaGreatBase
set_option linter.unusedVariables false
namespace Go.Proofs.YtkgkblmeafhkfaaGreat.SOpen
open Go.RowKit Go.Deep Go.Proofs.YtkgkblmeafhkfaaGreatW.PrintWords Go.Proofs.YtkgkblmeafhkfaaGreatW.PrintLast Go.Proofs.YtkgkblmeafhkfaaGreatW.PrintMore Go.Proofs.YtkgkblmeafhkfaaGreat.PH Go.Proofs.YtkgkblmeafhkfaaGreat.Opener
theorem b3 : Tryz.prog.bytesOf 3 = 8 := by kernel_rfl
theorem b2 : Tryz.prog.bytesOf 2 = 8 := by kernel_rfl
theorem b91 : Tryz.prog.bytesOf 91 = 16 := by kernel_rfl
theorem b64 : Tryz.prog.bytesOf 64 = 32 := by kernel_rfl
def wf (n:Int):Prop:=(Lit.int .i64 n).wf=true
def wfL (l:List Int):Prop:=Fits l.length 8∧∀ x,x∈l→wf x
def wf91 (x:S91):Prop:=wf x.f0∧wf x.f1
def wf64 (x:S64):Prop:=wf x.f0∧wf x.f1∧wf x.f2∧True
/-- A rule, a series: their kinds, and what is known of each part. -/
def kRule:=Kd.iso (Kd.pair (Kd.int .i64) (Kd.pair (Kd.int .i64) (Kd.pair (Kd.int .i64) (Kd.pair (Kd.int .i64) (Kd.pair (Kd.slice 3 (Kd.int .i64)) (Kd.pair (Kd.slice 3 (Kd.int .i64)) (Kd.slice 91 k91))))))) id
def okRule (x:Int×Int×Int×Int×List Int×List Int×List S91):Prop:=wf x.1∧wf x.2.1∧wf x.2.2.1∧wf x.2.2.2.1∧wfL x.2.2.2.2.1∧wfL x.2.2.2.2.2.1∧(Fits x.2.2.2.2.2.2.length 16∧∀ y,y∈x.2.2.2.2.2.2→wf91 y)
def kSer:=Kd.iso (Kd.pair (Kd.int .i64) (Kd.pair (Kd.int .i64) (Kd.pair Kd.bool (Kd.pair kRule (Kd.pair (Kd.slice 2 (Kd.int .i64)) (Kd.pair (Kd.slice 2 (Kd.int .i64)) (Kd.slice 64 k64))))))) id
def okSer (x:Int×Int×Bool×(Int×Int×Int×Int×List Int×List Int×List S91)×List Int×List Int×List S64):Prop:=wf x.1∧wf x.2.1∧True∧okRule x.2.2.2.1∧wfL x.2.2.2.2.1∧wfL x.2.2.2.2.2.1∧(Fits x.2.2.2.2.2.2.length 32∧∀ y,y∈x.2.2.2.2.2.2→wf64 y)
theorem wf_bound {n:Int} (h:wf n) : -9223372036854775808≤n∧n≤9223372036854775807:=by
 have h':IntKind.i64.min≤n∧n≤9223372036854775807:=by simpa [wf,Lit.wf] using h
 exact ⟨Int.le_trans (by decide) h'.1,h'.2⟩
section
variable {H:Type} {enc:TypeId×Value→H} {w:World} {base:Nat} {spare:Nat→Bool} {held:Bool}
theorem o2:Opens enc Tryz.prog w base spare held 2 (Kd.int .i64) wf:=Opener.open_int Tryz.underlying2 (by kernel_rfl)
theorem o3:Opens enc Tryz.prog w base spare held 3 (Kd.int .i64) wf:=Opener.open_int Tryz.underlying3 (by kernel_rfl)
theorem o4:Opens enc Tryz.prog w base spare held 4 Kd.bool (fun _=>True):=open_bool Tryz.underlying4 (by kernel_rfl)
theorem o22:Opens enc Tryz.prog w base spare held 22 (Kd.slice 3 (Kd.int .i64)) wfL:=Opener.open_slice (e:=3) (t:=22) (nb:=8) b3 Tryz.underlying22 (by kernel_rfl) o3
theorem o26:Opens enc Tryz.prog w base spare held 26 (Kd.slice 2 (Kd.int .i64)) wfL:=Opener.open_slice (e:=2) (t:=26) (nb:=8) b2 Tryz.underlying26 (by kernel_rfl) o2
theorem o91:Opens enc Tryz.prog w base spare held 91 k91 wf91 :=
 open_struct (fun x:S91=>(x.f0,x.f1)) (fun p=>⟨p.1,p.2⟩) (fun _=>rfl) Tryz.underlying91 (by kernel_rfl) (fields_cons rfl o3 (fields_last rfl o3))
theorem o23:Opens enc Tryz.prog w base spare held 23 (Kd.slice 91 k91) (fun l=>Fits l.length 16∧∀ y,y∈l→wf91 y):=Opener.open_slice (e:=91) (t:=23) (nb:=16) b91 Tryz.underlying23 (by kernel_rfl) o91
theorem o64:Opens enc Tryz.prog w base spare held 64 k64 wf64 :=
 open_struct (fun x:S64=>(x.f0,x.f1,x.f2,x.f3)) (fun p=>⟨p.1,p.2.1,p.2.2.1,p.2.2.2⟩) (fun _=>rfl) Tryz.underlying64 (by kernel_rfl) (fields_cons rfl o2 (fields_cons rfl o2 (fields_cons rfl o2 (fields_last rfl o4))))
theorem o27:Opens enc Tryz.prog w base spare held 27 (Kd.slice 64 k64) (fun l=>Fits l.length 32∧∀ y,y∈l→wf64 y):=Opener.open_slice (e:=64) (t:=27) (nb:=32) b64 Tryz.underlying27 (by kernel_rfl) o64
theorem o25:Opens enc Tryz.prog w base spare held 25 kRule (fun x=>wf x.1∧wf x.2.1∧wf x.2.2.1∧wf x.2.2.2.1∧wfL x.2.2.2.2.1∧wfL x.2.2.2.2.2.1∧(Fits x.2.2.2.2.2.2.length 16∧∀ y,y∈x.2.2.2.2.2.2→wf91 y)) :=
 open_struct id id (fun _=>rfl) Tryz.underlying25 (by kernel_rfl) (fields_cons rfl o3 (fields_cons rfl o3 (fields_cons rfl o3 (fields_cons rfl o2 (fields_cons rfl o22 (fields_cons rfl o22 (fields_last rfl o23)))))))
theorem o25':Opens enc Tryz.prog w base spare held 25 kRule okRule:=o25
theorem o29:Opens enc Tryz.prog w base spare held 29 kSer (fun x=>wf x.1∧wf x.2.1∧True∧okRule x.2.2.2.1∧wfL x.2.2.2.2.1∧wfL x.2.2.2.2.2.1∧(Fits x.2.2.2.2.2.2.length 32∧∀ y,y∈x.2.2.2.2.2.2→wf64 y)) :=
 open_struct id id (fun _=>rfl) Tryz.underlying29 (by kernel_rfl) (fields_cons rfl o2 (fields_cons rfl o2 (fields_cons rfl o4 (fields_cons rfl o25' (fields_cons rfl o26 (fields_cons rfl o26 (fields_last rfl o27)))))))
/-- A slice that came in. -/
structure Sl (α:Type) where
 A:Option Addr
 l:List α
 c:Nat
def Sl.v {α:Type} (x:Sl α):Value:=.slice x.A x.l.length x.c
structure Sl.Ok {α:Type} (w:World) (d:Kd α) (x:Sl α):Prop where
 r:Kd.C d w x.A x.l.length x.l
 c:x.l.length≤x.c
 n:x.l.length * 8 ≤ 140737488351232
/-- A series that came in. -/
structure Ser where
 (s0 s1:Int) (s2:Bool) (r0 r1 r2 r3:Int)
 (x7 x8:Sl Int) (x9:Sl S91) (x10 x11:Sl Int) (x12:Sl S64)
def Ser.cells (S:Ser):List Value:=[.int .i64 S.s0,.int .i64 S.s1,.bool S.s2,.int .i64 S.r0,.int .i64 S.r1,.int .i64 S.r2,.int .i64 S.r3,S.x7.v,S.x8.v,S.x9.v,S.x10.v,S.x11.v,S.x12.v]
structure Ser.Ok (w:World) (S:Ser):Prop where
 w0:wf S.s0
 w1:wf S.s1
 k7:S.x7.Ok w (Kd.int .i64)
 k8:S.x8.Ok w (Kd.int .i64)
 k9:S.x9.Ok w k91
 k10:S.x10.Ok w (Kd.int .i64)
 k11:S.x11.Ok w (Kd.int .i64)
 k12:S.x12.Ok w k64
theorem Ser.Ok.short {w:World} {S:Ser} (h:S.Ok w):Base.Short S.x7.l S.x8.l S.x9.l S.x10.l S.x11.l S.x12.l:=by
 have:=h.k7.n
 have:=h.k8.n
 have:=h.k9.n
 have:=h.k10.n
 have:=h.k11.n
 have:=h.k12.n
 exact ⟨by omega,by omega,by omega,by omega,by omega,by omega⟩
theorem series_of {fuel:Nat} {cs:List Value} {x:DataW H×List MemPlace} (h:DataW.trod enc Tryz.prog w base spare held fuel 29 cs=some x) (hl:Light Tryz.prog 29 x.1):∃ S:Ser,cs=S.cells∧S.Ok w:=by
 obtain ⟨⟨s0,s1,s2,⟨r0,r1,r2,r3,l7,l8,l9⟩,l10,l11,l12⟩,hk,h1,h2,-,⟨-,-,-,-,h7,h8,h9⟩,h10,h11,h12⟩:=o29.run h hl
 obtain ⟨_,_,rfl,rfl,_,_,rfl,rfl,_,_,rfl,rfl,_,_,rfl,hr,_,_,rfl,⟨A10,c10,rfl,e10,k10⟩,_,_,rfl,⟨A11,c11,rfl,e11,k11⟩,A12,c12,rfl,e12,k12⟩:=hk
 obtain ⟨_,_,rfl,rfl,_,_,rfl,rfl,_,_,rfl,rfl,_,_,rfl,rfl,_,_,rfl,⟨A7,c7,rfl,e7,k7⟩,_,_,rfl,⟨A8,c8,rfl,e8,k8⟩,A9,c9,rfl,e9,k9⟩:=hr
 exact ⟨⟨s0,s1,s2,r0,r1,r2,r3,⟨A7,l7,c7⟩,⟨A8,l8,c8⟩,⟨A9,l9,c9⟩,⟨A10,l10,c10⟩,⟨A11,l11,c11⟩,⟨A12,l12,c12⟩⟩,rfl,h1,h2,⟨k7,e7,h7.1⟩,⟨k8,e8,h8.1⟩,⟨k9,e9,by have h : l9.length * 16 ≤ 140737488351232 := h9.1; show l9.length * 8 ≤ 140737488351232; omega⟩,⟨k10,e10,h10.1⟩,⟨k11,e11,h11.1⟩,⟨k12,e12,by have h : l12.length * 32 ≤ 140737488351232 := h12.1; show l12.length * 8 ≤ 140737488351232; omega⟩⟩
/-- A change that came in. -/
structure Chg where
 (f0 f1 f2:Int) (f3:Bool)
def Chg.cells (S:Chg):List Value:=[.int .i64 S.f0,.int .i64 S.f1,.int .i64 S.f2,.bool S.f3]
structure Chg.Ok (w:World) (S:Chg):Prop where
 w0:wf S.f0
 w1:wf S.f1
 w2:wf S.f2
theorem change_of {fuel:Nat} {cs:List Value} {x:DataW H×List MemPlace} (h:DataW.trod enc Tryz.prog w base spare held fuel 64 cs=some x) (hl:Light Tryz.prog 64 x.1):∃ S:Chg,cs=S.cells∧S.Ok w:=by
 obtain ⟨⟨f0,f1,f2,f3⟩,⟨_,_,rfl,rfl,_,_,rfl,rfl,_,_,rfl,rfl,rfl⟩,h1,h2,h3,-⟩:=o64.run h hl
 exact ⟨⟨f0,f1,f2,f3⟩,rfl,h1,h2,h3⟩
end
end Go.Proofs.YtkgkblmeafhkfaaGreat.SOpen

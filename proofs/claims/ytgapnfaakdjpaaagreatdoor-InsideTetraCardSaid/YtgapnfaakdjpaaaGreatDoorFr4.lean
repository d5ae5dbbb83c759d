/- What the arguments of the laws on meshes hold: a mesh, a draft, changes. What the arguments of the law on tetrahedra hold. -/
import Derived.Test.YtgapnfaakdjpaaaGreatDoorFr
import Derived.Test.YtgapnfaakdjpaaaGreatDoorMr5
namespace Go.Proofs.YtgapnfaakdjpaaaGreatDoor
open Go Go.Sx Go.ChangeShapes Go.WideShapes Go.ChangeAt Go.RowKit
variable {H:Type} {enc:TypeId × Value→H} {W:World}
theorem list3 {α:Type} {l:List α} (h:l.length=3):∃ a b c,l=[a,b,c]:=by
  match l,h with
  | [a,b,c],_=>exact ⟨_,_,_,rfl⟩
theorem list4 {α:Type} {l:List α} (h:l.length=4):∃ a b c d,l=[a,b,c,d]:=by
  match l,h with
  | [a,b,c,d],_=>exact ⟨_,_,_,_,rfl⟩
section
variable {base:Nat} {sp:Nat→Bool} {held:Bool} {fuel:Nat} {cs:List Value} {x:DataW H × List MemPlace}
theorem wf_u8 {n:Int} (h:(Lit.int .u8 n).wf=true):0≤n∧n≤255:=by
  simpa [Lit.wf,IntKind.min,IntKind.max,IntKind.signed,IntKind.bits] using h
theorem wf_i8 {n:Int} (h:(Lit.int .i8 n).wf=true):-128≤n∧n≤127:=by
  simpa [Lit.wf,IntKind.min,IntKind.max,IntKind.signed,IntKind.bits] using h
end
end Go.Proofs.YtgapnfaakdjpaaaGreatDoor
namespace Go.Proofs.YtgapnfaakdjpaaaGreatDoor
open Go Go.Sx Go.ChangeShapes Go.WideShapes Go.ChangeAt Go.RowKit
variable {H:Type} {enc:TypeId × Value→H} {W:World} {base:Nat} {sp:Nat→Bool} {held:Bool} {fuel:Nat} {cs:List Value} {x:DataW H × List MemPlace}
theorem t12_of_trod (h:DataW.trod enc Tryz.prog W base sp held fuel 54 cs=some x):∃ a0 a1 a2 a3 a4 a5 a6 a7 a8 a9 a10 a11,cs=[.int .i32 a0,.int .i32 a1,.int .i32 a2,.int .i32 a3,.int .i32 a4,.int .i32 a5,.int .i32 a6,.int .i32 a7,.int .i32 a8,.int .i32 a9,.int .i32 a10,.int .i32 a11] ∧
    ∀ a∈[a0,a1,a2,a3,a4,a5,a6,a7,a8,a9,a10,a11],-2147483648≤a∧a≤2147483647:=by
  have hall:AllK .i32 cs:=allK_arr (UL.h (P:=Tryz.prog)) (by kernel_rfl) (fun fu c x hx=>allK_arr (UL.h (P:=Tryz.prog)) (by kernel_rfl) (fun fu c x hx=>allK_int (UL.h (P:=Tryz.prog)) hx) hx) h
  obtain ⟨xs,m,_,_,hl,_,_⟩:=DataW.trod_array (UL.h (P:=Tryz.prog) (t:=54)) h
  rw [show Tryz.prog.cellsOf 54=12 by kernel_rfl] at hl
  obtain ⟨a0,a1,a2,a3,a4,a5,a6,a7,a8,a9,a10,a11,rfl⟩:=list12 hl
  obtain ⟨a0,rfl,w0⟩:=hall a0 (by simp)
  obtain ⟨a1,rfl,w1⟩:=hall a1 (by simp)
  obtain ⟨a2,rfl,w2⟩:=hall a2 (by simp)
  obtain ⟨a3,rfl,w3⟩:=hall a3 (by simp)
  obtain ⟨a4,rfl,w4⟩:=hall a4 (by simp)
  obtain ⟨a5,rfl,w5⟩:=hall a5 (by simp)
  obtain ⟨a6,rfl,w6⟩:=hall a6 (by simp)
  obtain ⟨a7,rfl,w7⟩:=hall a7 (by simp)
  obtain ⟨a8,rfl,w8⟩:=hall a8 (by simp)
  obtain ⟨a9,rfl,w9⟩:=hall a9 (by simp)
  obtain ⟨a10,rfl,w10⟩:=hall a10 (by simp)
  obtain ⟨a11,rfl,w11⟩:=hall a11 (by simp)
  refine ⟨a0,a1,a2,a3,a4,a5,a6,a7,a8,a9,a10,a11,rfl,fun a ha=>?_⟩
  simp only [List.mem_cons,List.not_mem_nil,or_false] at ha
  rcases ha with rfl|rfl|rfl|rfl|rfl|rfl|rfl|rfl|rfl|rfl|rfl|rfl<;>exact wf_i32 (by assumption)
theorem u4_of_trod (h:DataW.trod enc Tryz.prog W base sp held fuel 55 cs=some x):∃ a b c d,cs=[.int .u8 a,.int .u8 b,.int .u8 c,.int .u8 d]∧∀ z∈[a,b,c,d],0≤z∧z≤255:=by
  have h1:AllK .u8 cs:=allK_arr (UL.h (P:=Tryz.prog)) (by kernel_rfl) (fun fu c x hx=>allK_int (UL.h (P:=Tryz.prog)) hx) h
  obtain ⟨xs,m,_,_,hl,_,_⟩:=DataW.trod_array (UL.h (P:=Tryz.prog) (t:=55)) h
  rw [show Tryz.prog.cellsOf 55=4 by kernel_rfl] at hl
  obtain ⟨a,b,c,d,rfl⟩:=list4 hl
  obtain ⟨a,rfl,w0⟩:=h1 a (by simp)
  obtain ⟨b,rfl,w1⟩:=h1 b (by simp)
  obtain ⟨c,rfl,w2⟩:=h1 c (by simp)
  obtain ⟨d,rfl,w3⟩:=h1 d (by simp)
  refine ⟨a,b,c,d,rfl,fun z hz=>?_⟩
  simp only [List.mem_cons,List.not_mem_nil,or_false] at hz
  rcases hz with rfl|rfl|rfl|rfl<;>exact wf_u8 (by assumption)
theorem i3_of_trod (h:DataW.trod enc Tryz.prog W base sp held fuel 57 cs=some x):∃ a b c,cs=[.int .i8 a,.int .i8 b,.int .i8 c]∧∀ z∈[a,b,c],-128≤z∧z≤127:=by
  have h1:AllK .i8 cs:=allK_arr (UL.h (P:=Tryz.prog)) (by kernel_rfl) (fun fu c x hx=>allK_int (UL.h (P:=Tryz.prog)) hx) h
  obtain ⟨xs,m,_,_,hl,_,_⟩:=DataW.trod_array (UL.h (P:=Tryz.prog) (t:=57)) h
  rw [show Tryz.prog.cellsOf 57=3 by kernel_rfl] at hl
  obtain ⟨a,b,c,rfl⟩:=list3 hl
  obtain ⟨a,rfl,w0⟩:=h1 a (by simp)
  obtain ⟨b,rfl,w1⟩:=h1 b (by simp)
  obtain ⟨c,rfl,w2⟩:=h1 c (by simp)
  refine ⟨a,b,c,rfl,fun z hz=>?_⟩
  simp only [List.mem_cons,List.not_mem_nil,or_false] at hz
  rcases hz with rfl|rfl|rfl<;>exact wf_i8 (by assumption)
end Go.Proofs.YtgapnfaakdjpaaaGreatDoor

/- What the arguments of the laws on ink hold: numbers, arrays of numbers. -/
import Derived.Test.YtoednejlfbfciaaGreatDoorFr
import Derived.Test.YtoednejlfbfciaaGreatDoorTy
set_option maxHeartbeats 1000000
namespace Go.Sx
open Go Go.ChangeShapes Go.WideShapes Go.ChangeAt Go.RowKit
theorem Zjm {H:Type} {enc:TypeId × Value→H} {P:Program} {w:World} {base:Nat} {spare:Nat→Bool} {held:Bool} {r:Reach} {b0:Nat} {t:TypeId} {k:IntKind} {v:Value} {fuel:Nat} {x:DataW H × List MemPlace} (ht:P.underlying t=some (.int k)) (h:Value.okWide P w r b0 t v) (hd:DataW.trod enc P w base spare held fuel t v.cells.toList=some x):∃ n,v=.int k n∧(Lit.int k n).wf=true:=by
 obtain ⟨n,hv,_,hw⟩:=DataW.trod_int ht hd
 refine ⟨n,?_,hw⟩
 simp only [Value.okWide,ht] at h
 unfold Cell.okWide at h
 cases v<;>simp [Value.cells,Cell.ok,ht] at h hv ⊢<;>first|exact hv|(subst hv;simp_all)
theorem Zut {α:Type} {l:List α} (h:l.length=4):∃ a b c d,l=[a,b,c,d]:=by
 match l,h with
 | [a,b,c,d],_=>exact ⟨_,_,_,_,rfl⟩
end Go.Sx
namespace Go.Proofs.YtoednejlfbfciaaGreatDoor
open Go Go.Sx Go.ChangeShapes Go.WideShapes Go.ChangeAt Go.RowKit
variable {H:Type} {enc:TypeId × Value→H} {W:World} {base:Nat} {sp:Nat→Bool} {held:Bool} {fuel:Nat} {cs:List Value} {x:DataW H × List MemPlace}
theorem Ze8 {n:Int} (h:(Lit.int .u16 n).wf=true):0≤n∧n≤65535:=by
 simpa [Lit.wf,IntKind.min,IntKind.max,IntKind.signed,IntKind.bits] using h
theorem Zlt {n:Int} (h:(Lit.int .u32 n).wf=true):0≤n∧n≤4294967295:=by
 simpa [Lit.wf,IntKind.min,IntKind.max,IntKind.signed,IntKind.bits] using h
theorem Ze9 {n:Int} (h:(Lit.int .i64 n).wf=true):-9223372036854775808≤n∧n≤9223372036854775807:=by
 simpa [Lit.wf,IntKind.min,IntKind.max,IntKind.signed,IntKind.bits] using h
theorem Zea (h:DataW.trod enc Tryz.prog W base sp held fuel 45 cs=some x):∃ a b c d,cs=[.int .u16 a,.int .u16 b,.int .u16 c,.int .u16 d]∧(0≤a∧a≤65535)∧(0≤b∧b≤65535)∧(0≤c∧c≤65535)∧(0≤d∧d≤65535):=by
 have h1:AllK .u16 cs:=Zg3 (UL.h (P:=Tryz.prog)) (by kernel_rfl) (fun fu c x hx=>Zg2 (UL.h (P:=Tryz.prog)) hx) h
 obtain ⟨xs,m,_,_,hl,_,_⟩:=DataW.trod_array (UL.h (P:=Tryz.prog) (t:=45)) h
 rw [show Tryz.prog.cellsOf 45=4 by kernel_rfl] at hl
 obtain ⟨a,b,c,d,rfl⟩:=Zut hl
 obtain ⟨a,rfl,w0⟩:=h1 a (by simp)
 obtain ⟨b,rfl,w1⟩:=h1 b (by simp)
 obtain ⟨c,rfl,w2⟩:=h1 c (by simp)
 obtain ⟨d,rfl,w3⟩:=h1 d (by simp)
 exact ⟨a,b,c,d,rfl,Ze8 w0,Ze8 w1,Ze8 w2,Ze8 w3⟩
theorem Zk0 (h:DataW.trod enc Tryz.prog W base sp held fuel 41 cs=some x):∃ a b c d,cs=[.int .i64 a,.int .i64 b,.int .i64 c,.int .i64 d]∧(-9223372036854775808≤a∧a≤9223372036854775807)∧(-9223372036854775808≤b∧b≤9223372036854775807)∧(-9223372036854775808≤c∧c≤9223372036854775807)∧(-9223372036854775808≤d∧d≤9223372036854775807):=by
 have h1:AllK .i64 cs:=Zg3 (UL.h (P:=Tryz.prog)) (by kernel_rfl) (fun fu c x hx=>Zg2 (UL.h (P:=Tryz.prog)) hx) h
 obtain ⟨xs,m,_,_,hl,_,_⟩:=DataW.trod_array (UL.h (P:=Tryz.prog) (t:=41)) h
 rw [show Tryz.prog.cellsOf 41=4 by kernel_rfl] at hl
 obtain ⟨a,b,c,d,rfl⟩:=Zut hl
 obtain ⟨a,rfl,w0⟩:=h1 a (by simp)
 obtain ⟨b,rfl,w1⟩:=h1 b (by simp)
 obtain ⟨c,rfl,w2⟩:=h1 c (by simp)
 obtain ⟨d,rfl,w3⟩:=h1 d (by simp)
 exact ⟨a,b,c,d,rfl,Ze9 w0,Ze9 w1,Ze9 w2,Ze9 w3⟩
end Go.Proofs.YtoednejlfbfciaaGreatDoor

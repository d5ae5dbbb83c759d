/- What the arguments of the laws on ink hold: numbers, arrays of numbers. -/
import Derived.Test.YtoednejlfbfciaaGreatDoorFr
import Derived.Test.YtoednejlfbfciaaGreatDoorTy
set_option maxHeartbeats 1000000
namespace Go.Sx
open Go Go.ChangeShapes Go.WideShapes Go.ChangeAt Go.RowKit
theorem Ztl {H:Type} {enc:TypeId × Value→H} {P:Program} {w:World} {base:Nat} {spare:Nat→Bool} {held:Bool} {r:Reach} {b0:Nat} {t:TypeId} {k:IntKind} {v:Value} {fuel:Nat} {x:DataW H × List MemPlace} (ht:P.underlying t=some (.int k)) (h:Value.okWide P w r b0 t v) (hd:DataW.trod enc P w base spare held fuel t v.cells.toList=some x):∃ n,v=.int k n∧(Lit.int k n).wf=true:=by
 obtain ⟨n,hv,_,hw⟩:=DataW.trod_int ht hd
 refine ⟨n,?_,hw⟩
 simp only [Value.okWide,ht] at h
 unfold Cell.okWide at h
 cases v<;>simp [Value.cells,Cell.ok,ht] at h hv ⊢<;>first|exact hv|(subst hv;simp_all)
theorem Zti {α:Type} {l:List α} (h:l.length=3):∃ a b c,l=[a,b,c]:=by
 match l,h with
 | [a,b,c],_=>exact ⟨_,_,_,rfl⟩
theorem Zth {α:Type} {l:List α} (h:l.length=4):∃ a b c d,l=[a,b,c,d]:=by
 match l,h with
 | [a,b,c,d],_=>exact ⟨_,_,_,_,rfl⟩
end Go.Sx
namespace Go.Proofs.YtoednejlfbfciaaGreatDoor
open Go Go.Sx Go.ChangeShapes Go.WideShapes Go.ChangeAt Go.RowKit
variable {H:Type} {enc:TypeId × Value→H} {W:World} {base:Nat} {sp:Nat→Bool} {held:Bool} {fuel:Nat} {cs:List Value} {x:DataW H × List MemPlace}
theorem Zo9 {n:Int} (h:(Lit.int .u8 n).wf=true):0≤n∧n≤255:=by
 simpa [Lit.wf,IntKind.min,IntKind.max,IntKind.signed,IntKind.bits] using h
theorem Zdf {n:Int} (h:(Lit.int .u16 n).wf=true):0≤n∧n≤65535:=by
 simpa [Lit.wf,IntKind.min,IntKind.max,IntKind.signed,IntKind.bits] using h
theorem Zni {n:Int} (h:(Lit.int .i16 n).wf=true):-32768≤n∧n≤32767:=by
 simpa [Lit.wf,IntKind.min,IntKind.max,IntKind.signed,IntKind.bits] using h
theorem Zej {n:Int} (h:(Lit.int .i64 n).wf=true):-9223372036854775808≤n∧n≤9223372036854775807:=by
 simpa [Lit.wf,IntKind.min,IntKind.max,IntKind.signed,IntKind.bits] using h
theorem Zgz (h:DataW.trod enc Tryz.prog W base sp held fuel 34 cs=some x):∃ a b c,cs=[.int .u16 a,.int .u16 b,.int .u16 c]∧(0≤a∧a≤65535)∧(0≤b∧b≤65535)∧(0≤c∧c≤65535):=by
 have h1:AllK .u16 cs:=Zhq (UL.h (P:=Tryz.prog)) (by kernel_rfl) (fun fu c x hx=>Zhp (UL.h (P:=Tryz.prog)) hx) h
 obtain ⟨xs,m,_,_,hl,_,_⟩:=DataW.trod_array (UL.h (P:=Tryz.prog) (t:=34)) h
 rw [show Tryz.prog.cellsOf 34=3 by kernel_rfl] at hl
 obtain ⟨a,b,c,rfl⟩:=Zti hl
 obtain ⟨a,rfl,w0⟩:=h1 a (by simp)
 obtain ⟨b,rfl,w1⟩:=h1 b (by simp)
 obtain ⟨c,rfl,w2⟩:=h1 c (by simp)
 exact ⟨a,b,c,rfl,Zdf w0,Zdf w1,Zdf w2⟩
theorem Zmp (h:DataW.trod enc Tryz.prog W base sp held fuel 33 cs=some x):∃ a b c,cs=[.int .i64 a,.int .i64 b,.int .i64 c]∧(-9223372036854775808≤a∧a≤9223372036854775807)∧(-9223372036854775808≤b∧b≤9223372036854775807)∧(-9223372036854775808≤c∧c≤9223372036854775807):=by
 have h1:AllK .i64 cs:=Zhq (UL.h (P:=Tryz.prog)) (by kernel_rfl) (fun fu c x hx=>Zhp (UL.h (P:=Tryz.prog)) hx) h
 obtain ⟨xs,m,_,_,hl,_,_⟩:=DataW.trod_array (UL.h (P:=Tryz.prog) (t:=33)) h
 rw [show Tryz.prog.cellsOf 33=3 by kernel_rfl] at hl
 obtain ⟨a,b,c,rfl⟩:=Zti hl
 obtain ⟨a,rfl,w0⟩:=h1 a (by simp)
 obtain ⟨b,rfl,w1⟩:=h1 b (by simp)
 obtain ⟨c,rfl,w2⟩:=h1 c (by simp)
 exact ⟨a,b,c,rfl,Zej w0,Zej w1,Zej w2⟩
end Go.Proofs.YtoednejlfbfciaaGreatDoor

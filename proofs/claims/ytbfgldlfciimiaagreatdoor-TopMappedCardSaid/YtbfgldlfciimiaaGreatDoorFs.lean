/- What the arguments of the laws on shells hold. -/
import Derived.Test.YtbfgldlfciimiaaGreatDoorFr
import Derived.Test.YtbfgldlfciimiaaGreatDoorTy
import Derived.Test.YtbfgldlfciimiaaGreatDoorLs6
set_option maxHeartbeats 1000000
namespace Go.Sx
open Go Go.ChangeShapes Go.WideShapes Go.ChangeAt Go.RowKit
theorem Ya7 {H:Type} {enc:TypeId × Value→H} {P:Program} {w:World} {base:Nat} {spare:Nat→Bool} {held:Bool} {r:Reach} {b0:Nat} {t:TypeId} {k:IntKind} {v:Value} {fuel:Nat} {x:DataW H × List MemPlace} (ht:P.underlying t=some (.int k)) (h:Value.okWide P w r b0 t v) (hd:DataW.trod enc P w base spare held fuel t v.cells.toList=some x):∃ n,v=.int k n∧(Lit.int k n).wf=true:=by
 obtain ⟨n,hv,_,hw⟩:=DataW.trod_int ht hd
 refine ⟨n,?_,hw⟩
 simp only [Value.okWide,ht] at h
 unfold Cell.okWide at h
 cases v<;>simp [Value.cells,Cell.ok,ht] at h hv ⊢<;>first|exact hv|(subst hv;simp_all)
end Go.Sx
namespace Go.Proofs.YtbfgldlfciimiaaGreatDoor
open Go Go.Sx Go.ChangeShapes Go.WideShapes Go.ChangeAt Go.RowKit
variable {H:Type} {enc:TypeId × Value→H} {W:World}
theorem Z9d {α:Type} {l:List α} (h:l.length=3):∃ a b c,l=[a,b,c]:=by
 match l,h with
 | [a,b,c],_=>exact ⟨_,_,_,rfl⟩
theorem Yec {α:Type} {l:List α} (h:l.length=8):∃ a b c d e f g i,l=[a,b,c,d,e,f,g,i]:=by
 match l,h with
 | [a,b,c,d,e,f,g,i],_=>exact ⟨_,_,_,_,_,_,_,_,rfl⟩
theorem Zob {n:Int} (h:(Lit.int .u8 n).wf=true):0≤n∧n≤255:=by
 simpa [Lit.wf,IntKind.min,IntKind.max,IntKind.signed,IntKind.bits] using h
theorem Zlu {n:Int} (h:(Lit.int .u16 n).wf=true):0≤n∧n≤65535:=by
 simpa [Lit.wf,IntKind.min,IntKind.max,IntKind.signed,IntKind.bits] using h
section
variable {base:Nat} {sp:Nat→Bool} {held:Bool} {fuel:Nat} {cs:List Value} {x:DataW H × List MemPlace}
theorem Zr3 (h:DataW.trod enc Tryz.prog W base sp held fuel 23 cs=some x):∃ a b c,cs=[.int .u16 a,.int .u16 b,.int .u16 c]∧(0≤a∧a≤65535)∧(0≤b∧b≤65535)∧(0≤c∧c≤65535):=by
 have h1:AllK .u16 cs:=Zrm (UL.h (P:=Tryz.prog)) (by kernel_rfl) (fun fu c x hx=>Zrl (UL.h (P:=Tryz.prog)) hx) h
 obtain ⟨xs,m,_,_,hl,_,_⟩:=DataW.trod_array (UL.h (P:=Tryz.prog) (t:=23)) h
 rw [show Tryz.prog.cellsOf 23=3 by kernel_rfl] at hl
 obtain ⟨a,b,c,rfl⟩:=Z9d hl
 obtain ⟨a,rfl,w0⟩:=h1 a (by simp)
 obtain ⟨b,rfl,w1⟩:=h1 b (by simp)
 obtain ⟨c,rfl,w2⟩:=h1 c (by simp)
 exact ⟨a,b,c,rfl,Zlu w0,Zlu w1,Zlu w2⟩
theorem Zur (h:DataW.trod enc Tryz.prog W base sp held fuel 24 cs=some x):∃ a b c,cs=[.int .u8 a,.int .u8 b,.int .u8 c]∧(0≤a∧a≤255)∧(0≤b∧b≤255)∧(0≤c∧c≤255):=by
 have h1:AllK .u8 cs:=Zrm (UL.h (P:=Tryz.prog)) (by kernel_rfl) (fun fu c x hx=>Zrl (UL.h (P:=Tryz.prog)) hx) h
 obtain ⟨xs,m,_,_,hl,_,_⟩:=DataW.trod_array (UL.h (P:=Tryz.prog) (t:=24)) h
 rw [show Tryz.prog.cellsOf 24=3 by kernel_rfl] at hl
 obtain ⟨a,b,c,rfl⟩:=Z9d hl
 obtain ⟨a,rfl,w0⟩:=h1 a (by simp)
 obtain ⟨b,rfl,w1⟩:=h1 b (by simp)
 obtain ⟨c,rfl,w2⟩:=h1 c (by simp)
 exact ⟨a,b,c,rfl,Zob w0,Zob w1,Zob w2⟩
theorem Zks {n m:Int} (h:0≤n∧n≤m):∃ k:Nat,n=(k:Int):=⟨n.toNat,by omega⟩
theorem Zl1 (h:DataW.trod enc Tryz.prog W base sp held fuel 5 cs=some x):∃ n:Nat,cs=[.int .u8 (n:Int)]∧n < 256:=by
 obtain ⟨n,h1,_,h2⟩:=DataW.trod_int (UL.h (P:=Tryz.prog)) h
 have h3:=Zob h2
 obtain ⟨k,rfl⟩:=Zks h3
 exact ⟨k,h1,by omega⟩
theorem Zv5 (h:DataW.trod enc Tryz.prog W base sp held fuel 26 cs=some x):∃ d:D37A,cs=d.cells∧d.ok:=by
 obtain ⟨xs,n,_,_,hl,hx,hf⟩:=DataW.trod_struct (UL.h (P:=Tryz.prog)) h
 have h0:=hf 0 _ rfl
 replace h0:DataW.trod enc Tryz.prog W base sp held n 5 ((cs.drop 0).take (Tryz.prog.cellsOf 5))=xs[0]?:=h0
 have h1:=hf 1 _ rfl
 replace h1:DataW.trod enc Tryz.prog W base sp held n 5 ((cs.drop 1).take (Tryz.prog.cellsOf 5))=xs[1]?:=h1
 have h2:=hf 2 _ rfl
 replace h2:DataW.trod enc Tryz.prog W base sp held n 23 ((cs.drop 2).take (Tryz.prog.cellsOf 23))=xs[2]?:=h2
 have h3:=hf 3 _ rfl
 replace h3:DataW.trod enc Tryz.prog W base sp held n 24 ((cs.drop 5).take (Tryz.prog.cellsOf 24))=xs[3]?:=h3
 have some_of:∀ {i:Nat},i < xs.length→∃ y,xs[i]?=some y:=fun h=>⟨_,List.getElem?_eq_getElem h⟩
 obtain ⟨y0,e0⟩:=some_of (i:=0) (by rw [hx];decide)
 obtain ⟨y1,e1⟩:=some_of (i:=1) (by rw [hx];decide)
 obtain ⟨y2,e2⟩:=some_of (i:=2) (by rw [hx];decide)
 obtain ⟨y3,e3⟩:=some_of (i:=3) (by rw [hx];decide)
 rw [e0] at h0
 rw [e1] at h1
 rw [e2] at h2
 rw [e3] at h3
 rw [show Tryz.prog.cellsOf 26=8 by kernel_rfl] at hl
 rw [show Tryz.prog.cellsOf 5=1 by kernel_rfl] at h0 h1
 rw [show Tryz.prog.cellsOf 23=3 by kernel_rfl] at h2
 rw [show Tryz.prog.cellsOf 24=3 by kernel_rfl] at h3
 obtain ⟨k0,g0,b0⟩:=Zl1 h0
 obtain ⟨k1,g1,b1⟩:=Zl1 h1
 obtain ⟨m0,m1,m2,g2,c0,c1,c2⟩:=Zr3 h2
 obtain ⟨n0,n1,n2,g3,d0,d1,d2⟩:=Zur h3
 obtain ⟨m0,rfl⟩:=Zks c0
 obtain ⟨m1,rfl⟩:=Zks c1
 obtain ⟨m2,rfl⟩:=Zks c2
 obtain ⟨n0,rfl⟩:=Zks d0
 obtain ⟨n1,rfl⟩:=Zks d1
 obtain ⟨n2,rfl⟩:=Zks d2
 obtain ⟨v0,v1,v2,v3,v4,v5,v6,v7,rfl⟩:=Yec hl
 simp only [List.drop_zero,List.drop_succ_cons,List.take_succ_cons,List.take_zero] at g0 g1 g2 g3
 cases g0
 cases g1
 cases g2
 cases g3
 exact ⟨⟨k0,k1,m0,m1,m2,n0,n1,n2⟩,rfl,b0,b1,by dsimp only;omega,by dsimp only;omega,by dsimp only;omega,by dsimp only;omega,by dsimp only;omega,by dsimp only;omega⟩
end
end Go.Proofs.YtbfgldlfciimiaaGreatDoor
namespace Go.Proofs.YtbfgldlfciimiaaGreatDoor
open Go Go.Sx Go.ChangeShapes Go.WideShapes Go.ChangeAt Go.RowKit
variable {H:Type} {enc:TypeId × Value→H} {W:World} {base:Nat} {sp:Nat→Bool} {held:Bool} {fuel:Nat} {cs:List Value} {x:DataW H × List MemPlace}
theorem Yed {α:Type} {l:List α} (h:l.length=2):∃ a b,l=[a,b]:=by
 match l,h with
 | [a,b],_=>exact ⟨_,_,rfl⟩
theorem Zr4 (h:DataW.trod enc Tryz.prog W base sp held fuel 52 cs=some x):∃ a b,cs=[.int .u16 a,.int .u16 b]∧(0≤a∧a≤65535)∧(0≤b∧b≤65535):=by
 have h1:AllK .u16 cs:=Zrm (UL.h (P:=Tryz.prog)) (by kernel_rfl) (fun fu c x hx=>Zrl (UL.h (P:=Tryz.prog)) hx) h
 obtain ⟨xs,m,_,_,hl,_,_⟩:=DataW.trod_array (UL.h (P:=Tryz.prog) (t:=52)) h
 rw [show Tryz.prog.cellsOf 52=2 by kernel_rfl] at hl
 obtain ⟨a,b,rfl⟩:=Yed hl
 obtain ⟨a,rfl,w0⟩:=h1 a (by simp)
 obtain ⟨b,rfl,w1⟩:=h1 b (by simp)
 exact ⟨a,b,rfl,Zlu w0,Zlu w1⟩
end Go.Proofs.YtbfgldlfciimiaaGreatDoor

/- What the arguments of the laws on shells hold. -/
import Derived.Test.YtgapnfaakdjpaaaGreatDoorFr
import Derived.Test.YtgapnfaakdjpaaaGreatDoorTy
import Derived.Test.YtgapnfaakdjpaaaGreatDoorLs6
namespace Go.Sx
open Go Go.ChangeShapes Go.WideShapes Go.ChangeAt Go.RowKit
theorem int_arg {H:Type} {enc:TypeId × Value→H} {P:Program} {w:World} {base:Nat} {spare:Nat→Bool} {held:Bool} {r:Reach} {b0:Nat} {t:TypeId} {k:IntKind} {v:Value} {fuel:Nat} {x:DataW H × List MemPlace} (ht:P.underlying t=some (.int k)) (h:Value.okWide P w r b0 t v) (hd:DataW.trod enc P w base spare held fuel t v.cells.toList=some x):∃ n,v=.int k n∧(Lit.int k n).wf=true:=by
  obtain ⟨n,hv,_,hw⟩:=DataW.trod_int ht hd
  refine ⟨n,?_,hw⟩
  simp only [Value.okWide,ht] at h
  unfold Cell.okWide at h
  cases v<;>simp [Value.cells,Cell.ok,ht] at h hv ⊢<;>first|exact hv|(subst hv;simp_all)
end Go.Sx
namespace Go.Proofs.YtgapnfaakdjpaaaGreatDoor
open Go Go.Sx Go.ChangeShapes Go.WideShapes Go.ChangeAt Go.RowKit
variable {H:Type} {enc:TypeId × Value→H} {W:World}
theorem listS3 {α:Type} {l:List α} (h:l.length=3):∃ a b c,l=[a,b,c]:=by
  match l,h with
  | [a,b,c],_=>exact ⟨_,_,_,rfl⟩
theorem listS8 {α:Type} {l:List α} (h:l.length=8):∃ a b c d e f g i,l=[a,b,c,d,e,f,g,i]:=by
  match l,h with
  | [a,b,c,d,e,f,g,i],_=>exact ⟨_,_,_,_,_,_,_,_,rfl⟩
theorem wfS_u8 {n:Int} (h:(Lit.int .u8 n).wf=true):0≤n∧n≤255:=by
  simpa [Lit.wf,IntKind.min,IntKind.max,IntKind.signed,IntKind.bits] using h
theorem wfS_u16 {n:Int} (h:(Lit.int .u16 n).wf=true):0≤n∧n≤65535:=by
  simpa [Lit.wf,IntKind.min,IntKind.max,IntKind.signed,IntKind.bits] using h
section
variable {base:Nat} {sp:Nat→Bool} {held:Bool} {fuel:Nat} {cs:List Value} {x:DataW H × List MemPlace}
theorem u163_of_trod (h:DataW.trod enc Tryz.prog W base sp held fuel 71 cs=some x):∃ a b c,cs=[.int .u16 a,.int .u16 b,.int .u16 c]∧(0≤a∧a≤65535)∧(0≤b∧b≤65535)∧(0≤c∧c≤65535):=by
  have h1:AllK .u16 cs:=allK_arr (UL.h (P:=Tryz.prog)) (by kernel_rfl) (fun fu c x hx=>allK_int (UL.h (P:=Tryz.prog)) hx) h
  obtain ⟨xs,m,_,_,hl,_,_⟩:=DataW.trod_array (UL.h (P:=Tryz.prog) (t:=71)) h
  rw [show Tryz.prog.cellsOf 71=3 by kernel_rfl] at hl
  obtain ⟨a,b,c,rfl⟩:=listS3 hl
  obtain ⟨a,rfl,w0⟩:=h1 a (by simp)
  obtain ⟨b,rfl,w1⟩:=h1 b (by simp)
  obtain ⟨c,rfl,w2⟩:=h1 c (by simp)
  exact ⟨a,b,c,rfl,wfS_u16 w0,wfS_u16 w1,wfS_u16 w2⟩
theorem u83_of_trod (h:DataW.trod enc Tryz.prog W base sp held fuel 27 cs=some x):∃ a b c,cs=[.int .u8 a,.int .u8 b,.int .u8 c]∧(0≤a∧a≤255)∧(0≤b∧b≤255)∧(0≤c∧c≤255):=by
  have h1:AllK .u8 cs:=allK_arr (UL.h (P:=Tryz.prog)) (by kernel_rfl) (fun fu c x hx=>allK_int (UL.h (P:=Tryz.prog)) hx) h
  obtain ⟨xs,m,_,_,hl,_,_⟩:=DataW.trod_array (UL.h (P:=Tryz.prog) (t:=27)) h
  rw [show Tryz.prog.cellsOf 27=3 by kernel_rfl] at hl
  obtain ⟨a,b,c,rfl⟩:=listS3 hl
  obtain ⟨a,rfl,w0⟩:=h1 a (by simp)
  obtain ⟨b,rfl,w1⟩:=h1 b (by simp)
  obtain ⟨c,rfl,w2⟩:=h1 c (by simp)
  exact ⟨a,b,c,rfl,wfS_u8 w0,wfS_u8 w1,wfS_u8 w2⟩
theorem nat_of {n m:Int} (h:0≤n∧n≤m):∃ k:Nat,n=(k:Int):=⟨n.toNat,by omega⟩
theorem u8S_of_trod (h:DataW.trod enc Tryz.prog W base sp held fuel 5 cs=some x):∃ n:Nat,cs=[.int .u8 (n:Int)]∧n < 256:=by
  obtain ⟨n,h1,_,h2⟩:=DataW.trod_int (UL.h (P:=Tryz.prog)) h
  have h3:=wfS_u8 h2
  obtain ⟨k,rfl⟩:=nat_of h3
  exact ⟨k,h1,by omega⟩
theorem d37_of_trod (h:DataW.trod enc Tryz.prog W base sp held fuel 73 cs=some x):∃ d:D37A,cs=d.cells∧d.ok:=by
  obtain ⟨xs,n,_,_,hl,hx,hf⟩:=DataW.trod_struct (UL.h (P:=Tryz.prog)) h
  have h0:=hf 0 _ rfl
  replace h0:DataW.trod enc Tryz.prog W base sp held n 5 ((cs.drop 0).take (Tryz.prog.cellsOf 5))=xs[0]?:=h0
  have h1:=hf 1 _ rfl
  replace h1:DataW.trod enc Tryz.prog W base sp held n 5 ((cs.drop 1).take (Tryz.prog.cellsOf 5))=xs[1]?:=h1
  have h2:=hf 2 _ rfl
  replace h2:DataW.trod enc Tryz.prog W base sp held n 71 ((cs.drop 2).take (Tryz.prog.cellsOf 71))=xs[2]?:=h2
  have h3:=hf 3 _ rfl
  replace h3:DataW.trod enc Tryz.prog W base sp held n 27 ((cs.drop 5).take (Tryz.prog.cellsOf 27))=xs[3]?:=h3
  have some_of:∀ {i:Nat},i < xs.length→∃ y,xs[i]?=some y:=fun h=>⟨_,List.getElem?_eq_getElem h⟩
  obtain ⟨y0,e0⟩:=some_of (i:=0) (by rw [hx];decide)
  obtain ⟨y1,e1⟩:=some_of (i:=1) (by rw [hx];decide)
  obtain ⟨y2,e2⟩:=some_of (i:=2) (by rw [hx];decide)
  obtain ⟨y3,e3⟩:=some_of (i:=3) (by rw [hx];decide)
  rw [e0] at h0
  rw [e1] at h1
  rw [e2] at h2
  rw [e3] at h3
  rw [show Tryz.prog.cellsOf 73=8 by kernel_rfl] at hl
  rw [show Tryz.prog.cellsOf 5=1 by kernel_rfl] at h0 h1
  rw [show Tryz.prog.cellsOf 71=3 by kernel_rfl] at h2
  rw [show Tryz.prog.cellsOf 27=3 by kernel_rfl] at h3
  obtain ⟨k0,g0,b0⟩:=u8S_of_trod h0
  obtain ⟨k1,g1,b1⟩:=u8S_of_trod h1
  obtain ⟨m0,m1,m2,g2,c0,c1,c2⟩:=u163_of_trod h2
  obtain ⟨n0,n1,n2,g3,d0,d1,d2⟩:=u83_of_trod h3
  obtain ⟨m0,rfl⟩:=nat_of c0
  obtain ⟨m1,rfl⟩:=nat_of c1
  obtain ⟨m2,rfl⟩:=nat_of c2
  obtain ⟨n0,rfl⟩:=nat_of d0
  obtain ⟨n1,rfl⟩:=nat_of d1
  obtain ⟨n2,rfl⟩:=nat_of d2
  obtain ⟨v0,v1,v2,v3,v4,v5,v6,v7,rfl⟩:=listS8 hl
  simp only [List.drop_zero,List.drop_succ_cons,List.take_succ_cons,List.take_zero] at g0 g1 g2 g3
  cases g0
  cases g1
  cases g2
  cases g3
  exact ⟨⟨k0,k1,m0,m1,m2,n0,n1,n2⟩,rfl,b0,b1,by dsimp only;omega,by dsimp only;omega,by dsimp only;omega,by dsimp only;omega,by dsimp only;omega,by dsimp only;omega⟩
end
end Go.Proofs.YtgapnfaakdjpaaaGreatDoor

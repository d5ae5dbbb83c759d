/- What the arguments of the laws on meshes hold: a mesh, a draft, changes. -/
import Derived.Test.YtgapnfaakdjpaaaGreatDoorFr
import Derived.Test.YtgapnfaakdjpaaaGreatDoorMr5
import Derived.Test.YtgapnfaakdjpaaaGreatDoorJr1
namespace Go.Proofs.YtgapnfaakdjpaaaGreatDoor
open Go Go.Sx Go.ChangeShapes Go.WideShapes Go.ChangeAt Go.RowKit
variable {H:Type} {enc:TypeId × Value→H} {W:World}
theorem cellsV3:Tryz.prog.cellsOf 31=3:=by kernel_rfl
theorem list3 {α:Type} {l:List α} (h:l.length=3):∃ a b c,l=[a,b,c]:=by
  match l,h with
  | [a,b,c],_=>exact ⟨_,_,_,rfl⟩
theorem list7 {α:Type} {l:List α} (h:l.length=7):∃ a b c d e f g,l=[a,b,c,d,e,f,g]:=by
  match l,h with
  | [a,b,c,d,e,f,g],_=>exact ⟨_,_,_,_,_,_,_,rfl⟩
theorem some_of {α:Type} {l:List α} {i:Nat} (h:i < l.length):∃ x,l[i]?=some x:=⟨_,List.getElem?_eq_getElem h⟩
section
variable {base:Nat} {sp:Nat→Bool} {held:Bool} {fuel:Nat} {cs:List Value} {x:DataW H × List MemPlace}
theorem v3_of_trod (h:DataW.trod enc Tryz.prog W base sp held fuel 31 cs=some x):∃ y:V3,cs=cV3.enc y∧True:=by
  have h1:AllK .i64 cs:=allK_arr (UL.h (P:=Tryz.prog)) (by kernel_rfl) (fun fu c x hx=>allK_int (UL.h (P:=Tryz.prog)) hx) h
  obtain ⟨xs,m,_,_,hl,_,_⟩:=DataW.trod_array (UL.h (P:=Tryz.prog) (t:=31)) h
  rw [cellsV3] at hl
  obtain ⟨a,b,c,rfl⟩:=list3 hl
  obtain ⟨a,rfl,_⟩:=h1 a (by simp)
  obtain ⟨b,rfl,_⟩:=h1 b (by simp)
  obtain ⟨c,rfl,_⟩:=h1 c (by simp)
  exact ⟨⟨a,b,c⟩,rfl,trivial⟩
theorem wf_u8 {n:Int} (h:(Lit.int .u8 n).wf=true):0≤n∧n≤255:=by
  simpa [Lit.wf,IntKind.min,IntKind.max,IntKind.signed,IntKind.bits] using h
theorem wf_i8 {n:Int} (h:(Lit.int .i8 n).wf=true):-128≤n∧n≤127:=by
  simpa [Lit.wf,IntKind.min,IntKind.max,IntKind.signed,IntKind.bits] using h
theorem wf_i16 {n:Int} (h:(Lit.int .i16 n).wf=true):-32768≤n∧n≤32767:=by
  simpa [Lit.wf,IntKind.min,IntKind.max,IntKind.signed,IntKind.bits] using h
theorem s3_of_trod (h:DataW.trod enc Tryz.prog W base sp held fuel 23 cs=some x):∃ a b c,cs=[.int .i16 a,.int .i16 b,.int .i16 c]∧(-32768≤a∧a≤32767)∧(-32768≤b∧b≤32767)∧(-32768≤c∧c≤32767):=by
  have h1:AllK .i16 cs:=allK_arr (UL.h (P:=Tryz.prog)) (by kernel_rfl) (fun fu c x hx=>allK_int (UL.h (P:=Tryz.prog)) hx) h
  obtain ⟨xs,m,_,_,hl,_,_⟩:=DataW.trod_array (UL.h (P:=Tryz.prog) (t:=23)) h
  rw [show Tryz.prog.cellsOf 23=3 by kernel_rfl] at hl
  obtain ⟨a,b,c,rfl⟩:=list3 hl
  obtain ⟨a,rfl,w0⟩:=h1 a (by simp)
  obtain ⟨b,rfl,w1⟩:=h1 b (by simp)
  obtain ⟨c,rfl,w2⟩:=h1 c (by simp)
  exact ⟨a,b,c,rfl,wf_i16 w0,wf_i16 w1,wf_i16 w2⟩
theorem u8_of_trod (h:DataW.trod enc Tryz.prog W base sp held fuel 5 cs=some x):∃ n,cs=[.int .u8 n]∧0≤n∧n≤255:=by
  obtain ⟨n,h1,_,h2⟩:=DataW.trod_int (UL.h (P:=Tryz.prog)) h
  exact ⟨n,h1,wf_u8 h2⟩
theorem cellsU8:Tryz.prog.cellsOf 5=1:=by kernel_rfl
theorem cellsOff:Tryz.prog.cellsOf 24=1:=by kernel_rfl
theorem cellsAt:Tryz.prog.cellsOf 23=3:=by kernel_rfl
theorem cellsBool:Tryz.prog.cellsOf 4=1:=by kernel_rfl
theorem cellsDraft:Tryz.prog.cellsOf 26=7:=by kernel_rfl
theorem off_of_trod (hsp:∀ b,sp b=true) (h:DataW.trod enc Tryz.prog W base sp held fuel 24 cs=some x):∃ v xs,cs=[v]∧xs.length≤9223372036854775807∧(∀ y∈xs,-128≤y∧y≤127)∧Rdb (fun b=>W.heap[b]?) (cI .i8) v xs:=by
  obtain ⟨v,xs,h1,h2,h3,h4⟩:=rdb_of_trod (c:=cI .i8) (UL.h (P:=Tryz.prog)) (by kernel_rfl) (by decide) hsp (fun y=>-128≤y∧y≤127) (fun fu c x hx=>by
    obtain ⟨n,h1,_,h2⟩:=DataW.trod_int (UL.h (P:=Tryz.prog)) hx
    exact ⟨n,h1,wf_i8 h2⟩) h
  exact ⟨v,xs,h1,Nat.le_trans h2 (by decide),h3,h4⟩
theorem draft_of_trod (hsp:∀ b,sp b=true) (h:DataW.trod enc Tryz.prog W base sp held fuel 26 cs=some x):∃ d:DraftA,cs=d.cells∧d.ok∧Rdb (fun b=>W.heap[b]?) (cI .i8) d.ov d.off:=by
  obtain ⟨xs,n,_,_,hl,hx,hf⟩:=DataW.trod_struct (UL.h (P:=Tryz.prog)) h
  have h0:=hf 0 _ rfl
  replace h0:DataW.trod enc Tryz.prog W base sp held n 5 ((cs.drop 0).take (Tryz.prog.cellsOf 5))=xs[0]?:=h0
  have h1:=hf 1 _ rfl
  replace h1:DataW.trod enc Tryz.prog W base sp held n 5 ((cs.drop 1).take (Tryz.prog.cellsOf 5))=xs[1]?:=h1
  have h2:=hf 2 _ rfl
  replace h2:DataW.trod enc Tryz.prog W base sp held n 23 ((cs.drop 2).take (Tryz.prog.cellsOf 23))=xs[2]?:=h2
  have h3:=hf 3 _ rfl
  replace h3:DataW.trod enc Tryz.prog W base sp held n 24 ((cs.drop 5).take (Tryz.prog.cellsOf 24))=xs[3]?:=h3
  have h4:=hf 4 _ rfl
  replace h4:DataW.trod enc Tryz.prog W base sp held n 4 ((cs.drop 6).take (Tryz.prog.cellsOf 4))=xs[4]?:=h4
  obtain ⟨y0,e0⟩:=some_of (l:=xs) (i:=0) (by rw [hx];decide)
  obtain ⟨y1,e1⟩:=some_of (l:=xs) (i:=1) (by rw [hx];decide)
  obtain ⟨y2,e2⟩:=some_of (l:=xs) (i:=2) (by rw [hx];decide)
  obtain ⟨y3,e3⟩:=some_of (l:=xs) (i:=3) (by rw [hx];decide)
  obtain ⟨y4,e4⟩:=some_of (l:=xs) (i:=4) (by rw [hx];decide)
  rw [e0] at h0
  rw [e1] at h1
  rw [e2] at h2
  rw [e3] at h3
  rw [e4] at h4
  rw [cellsDraft] at hl
  obtain ⟨c0,c1,c2,c3,c4,c5,c6,rfl⟩:=list7 hl
  rw [cellsU8] at h0 h1
  rw [cellsAt] at h2
  rw [cellsOff] at h3
  rw [cellsBool] at h4
  obtain ⟨kd,k1,k2⟩:=u8_of_trod h0
  obtain ⟨sz,s1,s2⟩:=u8_of_trod h1
  have hk:AllK .i16 [c2,c3,c4]:=allK_arr (UL.h (P:=Tryz.prog)) (by kernel_rfl) (fun fu c x hx=>allK_int (UL.h (P:=Tryz.prog)) hx) h2
  obtain ⟨a0,rfl,w0⟩:=hk c2 (by simp)
  obtain ⟨a1,rfl,w1⟩:=hk c3 (by simp)
  obtain ⟨a2,rfl,w2⟩:=hk c4 (by simp)
  obtain ⟨ov,off,o1,o2,o3,o4⟩:=off_of_trod hsp h3
  obtain ⟨tn,t1,_⟩:=DataW.trod_bool (UL.h (P:=Tryz.prog)) h4
  cases k1
  cases s1
  cases o1
  cases t1
  exact ⟨⟨kd,sz,a0,a1,a2,_,off,tn⟩,rfl,⟨k2,s2,wf_i16 w0,wf_i16 w1,wf_i16 w2,o3,o2⟩,o4⟩
end
end Go.Proofs.YtgapnfaakdjpaaaGreatDoor
namespace Go.Sx
open Go Go.ChangeShapes Go.WideShapes Go.ChangeAt Go.RowKit
theorem int_arg {H:Type} {enc:TypeId × Value→H} {P:Program} {w:World} {base:Nat} {spare:Nat→Bool} {held:Bool} {r:Reach} {b0:Nat} {t:TypeId} {k:IntKind} {v:Value} {fuel:Nat} {x:DataW H × List MemPlace} (ht:P.underlying t=some (.int k)) (h:Value.okWide P w r b0 t v) (hd:DataW.trod enc P w base spare held fuel t v.cells.toList=some x):∃ n,v=.int k n∧(Lit.int k n).wf=true:=by
  obtain ⟨n,hv,_,hw⟩:=DataW.trod_int ht hd
  refine ⟨n,?_,hw⟩
  simp only [Value.okWide,ht] at h
  unfold Cell.okWide at h
  cases v<;>simp [Value.cells,Cell.ok,ht] at h hv ⊢<;>first|exact hv|(subst hv;simp_all)
end Go.Sx
namespace Go.Proofs.YtgapnfaakdjpaaaGreatDoor
open Go Go.Sx Go.ChangeShapes Go.WideShapes Go.ChangeAt Go.RowKit
variable {H:Type} {enc:TypeId × Value→H} {W:World} {base:Nat} {sp:Nat→Bool} {held:Bool} {fuel:Nat} {cs:List Value} {x:DataW H × List MemPlace}
theorem list9 {α:Type} {l:List α} (h:l.length=9):∃ a b c d e f g i j,l=[a,b,c,d,e,f,g,i,j]:=by
  match l,h with
  | [a,b,c,d,e,f,g,i,j],_=>exact ⟨_,_,_,_,_,_,_,_,_,rfl⟩
theorem u3_of_trod (h:DataW.trod enc Tryz.prog W base sp held fuel 27 cs=some x):∃ a b c,cs=[.int .u8 a,.int .u8 b,.int .u8 c]∧(0≤a∧a≤255)∧(0≤b∧b≤255)∧(0≤c∧c≤255):=by
  have h1:AllK .u8 cs:=allK_arr (UL.h (P:=Tryz.prog)) (by kernel_rfl) (fun fu c x hx=>allK_int (UL.h (P:=Tryz.prog)) hx) h
  obtain ⟨xs,m,_,_,hl,_,_⟩:=DataW.trod_array (UL.h (P:=Tryz.prog) (t:=27)) h
  rw [show Tryz.prog.cellsOf 27=3 by kernel_rfl] at hl
  obtain ⟨a,b,c,rfl⟩:=list3 hl
  obtain ⟨a,rfl,w0⟩:=h1 a (by simp)
  obtain ⟨b,rfl,w1⟩:=h1 b (by simp)
  obtain ⟨c,rfl,w2⟩:=h1 c (by simp)
  exact ⟨a,b,c,rfl,wf_u8 w0,wf_u8 w1,wf_u8 w2⟩
theorem place_of_trod (h:DataW.trod enc Tryz.prog W base sp held fuel 29 cs=some x):∃ y:PlaceA,cs=y.cells∧y.ok:=by
  obtain ⟨xs,n,_,_,hl,hx,hf⟩:=DataW.trod_struct (UL.h (P:=Tryz.prog)) h
  have h0:=hf 0 _ rfl
  replace h0:DataW.trod enc Tryz.prog W base sp held n 27 ((cs.drop 0).take (Tryz.prog.cellsOf 27))=xs[0]?:=h0
  have h1:=hf 1 _ rfl
  replace h1:DataW.trod enc Tryz.prog W base sp held n 27 ((cs.drop 3).take (Tryz.prog.cellsOf 27))=xs[1]?:=h1
  have h2:=hf 2 _ rfl
  replace h2:DataW.trod enc Tryz.prog W base sp held n 23 ((cs.drop 6).take (Tryz.prog.cellsOf 23))=xs[2]?:=h2
  obtain ⟨y0,e0⟩:=some_of (l:=xs) (i:=0) (by rw [hx];decide)
  obtain ⟨y1,e1⟩:=some_of (l:=xs) (i:=1) (by rw [hx];decide)
  obtain ⟨y2,e2⟩:=some_of (l:=xs) (i:=2) (by rw [hx];decide)
  rw [e0] at h0
  rw [e1] at h1
  rw [e2] at h2
  rw [show Tryz.prog.cellsOf 29=9 by kernel_rfl] at hl
  obtain ⟨c0,c1,c2,c3,c4,c5,c6,c7,c8,rfl⟩:=list9 hl
  rw [show Tryz.prog.cellsOf 27=3 by kernel_rfl] at h0 h1
  rw [show Tryz.prog.cellsOf 23=3 by kernel_rfl] at h2
  obtain ⟨a0,a1,a2,k1,k2,k3,k4⟩:=u3_of_trod h0
  obtain ⟨b0,b1,b2,l1,l2,l3,l4⟩:=u3_of_trod h1
  obtain ⟨o0,o1,o2,m1,m2,m3,m4⟩:=s3_of_trod h2
  cases k1
  cases l1
  cases m1
  exact ⟨⟨a0,a1,a2,b0,b1,b2,o0,o1,o2⟩,rfl,⟨k2,k3,k4⟩,⟨l2,l3,l4⟩,⟨m2,m3,m4⟩⟩
theorem places3_of_trod (h:DataW.trod enc Tryz.prog W base sp held fuel 44 cs=some x):∃ y z u:PlaceA,cs=y.cells++(z.cells++u.cells)∧y.ok∧z.ok∧u.ok:=by
  obtain ⟨xs,m,_,_,hl,hx,hf⟩:=DataW.trod_array (UL.h (P:=Tryz.prog)) h
  have h0:=hf 0 (by decide)
  have h1:=hf 1 (by decide)
  have h2:=hf 2 (by decide)
  obtain ⟨y0,e0⟩:=some_of (l:=xs) (i:=0) (by rw [hx];decide)
  obtain ⟨y1,e1⟩:=some_of (l:=xs) (i:=1) (by rw [hx];decide)
  obtain ⟨y2,e2⟩:=some_of (l:=xs) (i:=2) (by rw [hx];decide)
  rw [e0,show Tryz.prog.cellsOf 29=9 by kernel_rfl] at h0
  rw [e1,show Tryz.prog.cellsOf 29=9 by kernel_rfl] at h1
  rw [e2,show Tryz.prog.cellsOf 29=9 by kernel_rfl] at h2
  rw [show Tryz.prog.cellsOf 44=27 by kernel_rfl] at hl
  obtain ⟨y,b1,b2⟩:=place_of_trod h0
  obtain ⟨z,d1,d2⟩:=place_of_trod h1
  obtain ⟨u,g1,g2⟩:=place_of_trod h2
  refine ⟨y,z,u,?_,b2,d2,g2⟩
  rw [← b1,← d1,← g1,Nat.zero_mul,List.drop_zero,Nat.one_mul,List.take_of_length_le (l:=cs.drop (2 * 9)) (by rw [List.length_drop];omega),show 2 * 9=9+9 from rfl,← List.drop_drop,List.take_append_drop,List.take_append_drop]
end Go.Proofs.YtgapnfaakdjpaaaGreatDoor

/- What the arguments of the laws on ink hold: rules, drafted curves. -/
import Derived.Test.YtoednejlfbfciaaGreatDoorFk1
import Derived.Test.YtoednejlfbfciaaGreatDoorKr6
set_option maxHeartbeats 1000000
namespace Go.Sx
theorem Z0i {α:Type} {l:List α} (h:l.length=5):∃ a b c d e,l=[a,b,c,d,e]:=by
 match l,h with
 | [a,b,c,d,e],_=>exact ⟨_,_,_,_,_,rfl⟩
theorem Zxr {α:Type} {l:List α} (h:l.length=6):∃ a b c d e f,l=[a,b,c,d,e,f]:=by
 match l,h with
 | [a,b,c,d,e,f],_=>exact ⟨_,_,_,_,_,_,rfl⟩
theorem Zc6 {α:Type} {l:List α} {i:Nat} (h:i < l.length):∃ x,l[i]?=some x:=⟨_,List.getElem?_eq_getElem h⟩
end Go.Sx
namespace Go.Proofs.YtoednejlfbfciaaGreatDoor
open Go Go.Sx Go.ChangeShapes Go.WideShapes Go.ChangeAt Go.RowKit
variable {H:Type} {enc:TypeId × Value→H} {W:World} {base:Nat} {sp:Nat→Bool} {held:Bool} {fuel:Nat} {cs:List Value} {x:DataW H × List MemPlace}
theorem Znq (h:DataW.trod enc Tryz.prog W base sp held fuel 59 cs=some x):∃ s:Seg,cs=cSeg.enc s∧True:=by
 obtain ⟨xs,n,_,_,hl,hx,hf⟩:=DataW.trod_struct (UL.h (P:=Tryz.prog)) h
 rw [show Tryz.prog.cellsOf 59=6 by kernel_rfl] at hl
 obtain ⟨z0,z1,z2,z3,z4,z5,rfl⟩:=Zxr hl
 have h0:=hf 0 _ rfl
 replace h0:DataW.trod enc Tryz.prog W base sp held n 3 (([z0,z1,z2,z3,z4,z5].drop 0).take (Tryz.prog.cellsOf 3))=xs[0]?:=h0
 obtain ⟨y0,e0⟩:=Zc6 (l:=xs) (i:=0) (by rw [hx];decide)
 rw [e0,show Tryz.prog.cellsOf 3=1 by kernel_rfl] at h0
 have h1:=hf 1 _ rfl
 replace h1:DataW.trod enc Tryz.prog W base sp held n 3 (([z0,z1,z2,z3,z4,z5].drop 1).take (Tryz.prog.cellsOf 3))=xs[1]?:=h1
 obtain ⟨y1,e1⟩:=Zc6 (l:=xs) (i:=1) (by rw [hx];decide)
 rw [e1,show Tryz.prog.cellsOf 3=1 by kernel_rfl] at h1
 have h2:=hf 2 _ rfl
 replace h2:DataW.trod enc Tryz.prog W base sp held n 3 (([z0,z1,z2,z3,z4,z5].drop 2).take (Tryz.prog.cellsOf 3))=xs[2]?:=h2
 obtain ⟨y2,e2⟩:=Zc6 (l:=xs) (i:=2) (by rw [hx];decide)
 rw [e2,show Tryz.prog.cellsOf 3=1 by kernel_rfl] at h2
 have h3:=hf 3 _ rfl
 replace h3:DataW.trod enc Tryz.prog W base sp held n 3 (([z0,z1,z2,z3,z4,z5].drop 3).take (Tryz.prog.cellsOf 3))=xs[3]?:=h3
 obtain ⟨y3,e3⟩:=Zc6 (l:=xs) (i:=3) (by rw [hx];decide)
 rw [e3,show Tryz.prog.cellsOf 3=1 by kernel_rfl] at h3
 have h4:=hf 4 _ rfl
 replace h4:DataW.trod enc Tryz.prog W base sp held n 3 (([z0,z1,z2,z3,z4,z5].drop 4).take (Tryz.prog.cellsOf 3))=xs[4]?:=h4
 obtain ⟨y4,e4⟩:=Zc6 (l:=xs) (i:=4) (by rw [hx];decide)
 rw [e4,show Tryz.prog.cellsOf 3=1 by kernel_rfl] at h4
 have h5:=hf 5 _ rfl
 replace h5:DataW.trod enc Tryz.prog W base sp held n 3 (([z0,z1,z2,z3,z4,z5].drop 5).take (Tryz.prog.cellsOf 3))=xs[5]?:=h5
 obtain ⟨y5,e5⟩:=Zc6 (l:=xs) (i:=5) (by rw [hx];decide)
 rw [e5,show Tryz.prog.cellsOf 3=1 by kernel_rfl] at h5
 obtain ⟨n0,k0,_,w0⟩:=DataW.trod_int (UL.h (P:=Tryz.prog)) h0
 cases k0
 obtain ⟨n1,k1,_,w1⟩:=DataW.trod_int (UL.h (P:=Tryz.prog)) h1
 cases k1
 obtain ⟨n2,k2,_,w2⟩:=DataW.trod_int (UL.h (P:=Tryz.prog)) h2
 cases k2
 obtain ⟨n3,k3,_,w3⟩:=DataW.trod_int (UL.h (P:=Tryz.prog)) h3
 cases k3
 obtain ⟨n4,k4,_,w4⟩:=DataW.trod_int (UL.h (P:=Tryz.prog)) h4
 cases k4
 obtain ⟨n5,k5,_,w5⟩:=DataW.trod_int (UL.h (P:=Tryz.prog)) h5
 cases k5
 exact ⟨⟨n0,n1,n2,n3,n4,n5⟩,rfl,trivial⟩
theorem Znz (h:DataW.trod enc Tryz.prog W base sp held fuel 80 cs=some x):∃ s:Prt,cs=cPrt.enc s∧s.ok:=by
 obtain ⟨xs,n,_,_,hl,hx,hf⟩:=DataW.trod_struct (UL.h (P:=Tryz.prog)) h
 rw [show Tryz.prog.cellsOf 80=6 by kernel_rfl] at hl
 obtain ⟨z0,z1,z2,z3,z4,z5,rfl⟩:=Zxr hl
 have h0:=hf 0 _ rfl
 replace h0:DataW.trod enc Tryz.prog W base sp held n 5 (([z0,z1,z2,z3,z4,z5].drop 0).take (Tryz.prog.cellsOf 5))=xs[0]?:=h0
 obtain ⟨y0,e0⟩:=Zc6 (l:=xs) (i:=0) (by rw [hx];decide)
 rw [e0,show Tryz.prog.cellsOf 5=1 by kernel_rfl] at h0
 have h1:=hf 1 _ rfl
 replace h1:DataW.trod enc Tryz.prog W base sp held n 78 (([z0,z1,z2,z3,z4,z5].drop 1).take (Tryz.prog.cellsOf 78))=xs[1]?:=h1
 obtain ⟨y1,e1⟩:=Zc6 (l:=xs) (i:=1) (by rw [hx];decide)
 rw [e1,show Tryz.prog.cellsOf 78=1 by kernel_rfl] at h1
 have h2:=hf 2 _ rfl
 replace h2:DataW.trod enc Tryz.prog W base sp held n 78 (([z0,z1,z2,z3,z4,z5].drop 2).take (Tryz.prog.cellsOf 78))=xs[2]?:=h2
 obtain ⟨y2,e2⟩:=Zc6 (l:=xs) (i:=2) (by rw [hx];decide)
 rw [e2,show Tryz.prog.cellsOf 78=1 by kernel_rfl] at h2
 have h3:=hf 3 _ rfl
 replace h3:DataW.trod enc Tryz.prog W base sp held n 78 (([z0,z1,z2,z3,z4,z5].drop 3).take (Tryz.prog.cellsOf 78))=xs[3]?:=h3
 obtain ⟨y3,e3⟩:=Zc6 (l:=xs) (i:=3) (by rw [hx];decide)
 rw [e3,show Tryz.prog.cellsOf 78=1 by kernel_rfl] at h3
 have h4:=hf 4 _ rfl
 replace h4:DataW.trod enc Tryz.prog W base sp held n 5 (([z0,z1,z2,z3,z4,z5].drop 4).take (Tryz.prog.cellsOf 5))=xs[4]?:=h4
 obtain ⟨y4,e4⟩:=Zc6 (l:=xs) (i:=4) (by rw [hx];decide)
 rw [e4,show Tryz.prog.cellsOf 5=1 by kernel_rfl] at h4
 have h5:=hf 5 _ rfl
 replace h5:DataW.trod enc Tryz.prog W base sp held n 5 (([z0,z1,z2,z3,z4,z5].drop 5).take (Tryz.prog.cellsOf 5))=xs[5]?:=h5
 obtain ⟨y5,e5⟩:=Zc6 (l:=xs) (i:=5) (by rw [hx];decide)
 rw [e5,show Tryz.prog.cellsOf 5=1 by kernel_rfl] at h5
 obtain ⟨n0,k0,_,w0⟩:=DataW.trod_int (UL.h (P:=Tryz.prog)) h0
 cases k0
 obtain ⟨n1,k1,_,w1⟩:=DataW.trod_int (UL.h (P:=Tryz.prog)) h1
 cases k1
 obtain ⟨n2,k2,_,w2⟩:=DataW.trod_int (UL.h (P:=Tryz.prog)) h2
 cases k2
 obtain ⟨n3,k3,_,w3⟩:=DataW.trod_int (UL.h (P:=Tryz.prog)) h3
 cases k3
 obtain ⟨n4,k4,_,w4⟩:=DataW.trod_int (UL.h (P:=Tryz.prog)) h4
 cases k4
 obtain ⟨n5,k5,_,w5⟩:=DataW.trod_int (UL.h (P:=Tryz.prog)) h5
 cases k5
 exact ⟨⟨n0,n1,n2,n3,n4,n5⟩,rfl,Zo9 w0,Zni w1,Zni w2,Zni w3,Zo9 w4,Zo9 w5⟩
theorem Zkw (hsp:∀ b,sp b=true) (h:DataW.trod enc Tryz.prog W base sp held fuel 22 cs=some x):∃ v xs,cs=[v]∧xs.length≤9223372036854775807∧(∀ y∈xs,-9223372036854775808≤y∧y≤9223372036854775807)∧Rdb (fun b=>W.heap[b]?) (cI .i64) v xs:=by
 obtain ⟨v,xs,h1,h2,h3,h4⟩:=Zd0 (c:=(cI .i64)) (UL.h (P:=Tryz.prog)) (by kernel_rfl) (by decide) hsp (fun y=>-9223372036854775808≤y∧y≤9223372036854775807) (fun fu c x hx=>by
  obtain ⟨n,h1,_,h2⟩:=DataW.trod_int (UL.h (P:=Tryz.prog)) hx
  exact ⟨n,h1,Zej h2⟩) h
 exact ⟨v,xs,h1,Nat.le_trans h2 (by decide),h3,h4⟩
theorem Zlv (hsp:∀ b,sp b=true) (h:DataW.trod enc Tryz.prog W base sp held fuel 28 cs=some x):∃ v xs,cs=[v]∧xs.length≤9223372036854775807∧(∀ y∈xs,0≤y∧y≤65535)∧Rdb (fun b=>W.heap[b]?) (cI .u16) v xs:=by
 obtain ⟨v,xs,h1,h2,h3,h4⟩:=Zd0 (c:=(cI .u16)) (UL.h (P:=Tryz.prog)) (by kernel_rfl) (by decide) hsp (fun y=>0≤y∧y≤65535) (fun fu c x hx=>by
  obtain ⟨n,h1,_,h2⟩:=DataW.trod_int (UL.h (P:=Tryz.prog)) hx
  exact ⟨n,h1,Zdf h2⟩) h
 exact ⟨v,xs,h1,Nat.le_trans h2 (by decide),h3,h4⟩
theorem Zl3 (hsp:∀ b,sp b=true) (h:DataW.trod enc Tryz.prog W base sp held fuel 23 cs=some x):∃ v xs,cs=[v]∧xs.length≤9223372036854775807∧(∀ y∈xs,True)∧Rdb (fun b=>W.heap[b]?) cSeg v xs:=by
 obtain ⟨v,xs,h1,h2,h3,h4⟩:=Zd0 (c:=cSeg) (UL.h (P:=Tryz.prog)) (by kernel_rfl) (by decide) hsp (fun y=>True) (fun fu c x hx=>by
  exact Znq hx) h
 exact ⟨v,xs,h1,Nat.le_trans h2 (by decide),h3,h4⟩
theorem Zmc (hsp:∀ b,sp b=true) (h:DataW.trod enc Tryz.prog W base sp held fuel 29 cs=some x):∃ v xs,cs=[v]∧xs.length≤9223372036854775807∧(∀ y∈xs,y.ok)∧Rdb (fun b=>W.heap[b]?) cPrt v xs:=by
 obtain ⟨v,xs,h1,h2,h3,h4⟩:=Zd0 (c:=cPrt) (UL.h (P:=Tryz.prog)) (by kernel_rfl) (by decide) hsp (fun y=>y.ok) (fun fu c x hx=>by
  exact Znz hx) h
 exact ⟨v,xs,h1,Nat.le_trans h2 (by decide),h3,h4⟩
theorem Zk7 (hsp:∀ b,sp b=true) (h:DataW.trod enc Tryz.prog W base sp held fuel 25 cs=some x):∃ (k:Int) (tv:Value) (tb:List Int) (sv:Value) (sg:List Seg),cs=[.int .i64 k,tv,sv]∧tb.length≤9223372036854775807∧sg.length≤9223372036854775807∧Rdb (fun b=>W.heap[b]?) (cI .i64) tv tb∧Rdb (fun b=>W.heap[b]?) cSeg sv sg:=by
 obtain ⟨xs,n,_,_,hl,hx,hf⟩:=DataW.trod_struct (UL.h (P:=Tryz.prog)) h
 rw [show Tryz.prog.cellsOf 25=3 by kernel_rfl] at hl
 obtain ⟨z0,z1,z2,rfl⟩:=Zti hl
 have h0:=hf 0 _ rfl
 replace h0:DataW.trod enc Tryz.prog W base sp held n 3 (([z0,z1,z2].drop 0).take (Tryz.prog.cellsOf 3))=xs[0]?:=h0
 obtain ⟨y0,e0⟩:=Zc6 (l:=xs) (i:=0) (by rw [hx];decide)
 rw [e0,show Tryz.prog.cellsOf 3=1 by kernel_rfl] at h0
 have h1:=hf 1 _ rfl
 replace h1:DataW.trod enc Tryz.prog W base sp held n 22 (([z0,z1,z2].drop 1).take (Tryz.prog.cellsOf 22))=xs[1]?:=h1
 obtain ⟨y1,e1⟩:=Zc6 (l:=xs) (i:=1) (by rw [hx];decide)
 rw [e1,show Tryz.prog.cellsOf 22=1 by kernel_rfl] at h1
 have h2:=hf 2 _ rfl
 replace h2:DataW.trod enc Tryz.prog W base sp held n 23 (([z0,z1,z2].drop 2).take (Tryz.prog.cellsOf 23))=xs[2]?:=h2
 obtain ⟨y2,e2⟩:=Zc6 (l:=xs) (i:=2) (by rw [hx];decide)
 rw [e2,show Tryz.prog.cellsOf 23=1 by kernel_rfl] at h2
 obtain ⟨n0,k0,_,w0⟩:=DataW.trod_int (UL.h (P:=Tryz.prog)) h0
 cases k0
 obtain ⟨v1,l1,k1,a1,b1,r1⟩:=Zkw hsp h1
 cases k1
 obtain ⟨v2,l2,k2,a2,b2,r2⟩:=Zl3 hsp h2
 cases k2
 exact ⟨n0,_,l1,_,l2,rfl,a1,a2,r1,r2⟩
theorem Zkl (hsp:∀ b,sp b=true) (h:DataW.trod enc Tryz.prog W base sp held fuel 27 cs=some x):∃ (k n:Int) (tv:Value) (tb:List Int) (sv:Value) (sg:List Seg),cs=[.int .i64 k,tv,sv,.int .i64 n]∧tb.length≤9223372036854775807∧sg.length≤9223372036854775807∧Rdb (fun b=>W.heap[b]?) (cI .i64) tv tb∧Rdb (fun b=>W.heap[b]?) cSeg sv sg:=by
 obtain ⟨xs,n,_,_,hl,hx,hf⟩:=DataW.trod_struct (UL.h (P:=Tryz.prog)) h
 rw [show Tryz.prog.cellsOf 27=4 by kernel_rfl] at hl
 obtain ⟨z0,z1,z2,z3,rfl⟩:=Zth hl
 have h0:=hf 0 _ rfl
 replace h0:DataW.trod enc Tryz.prog W base sp held n 25 (([z0,z1,z2,z3].drop 0).take (Tryz.prog.cellsOf 25))=xs[0]?:=h0
 obtain ⟨y0,e0⟩:=Zc6 (l:=xs) (i:=0) (by rw [hx];decide)
 rw [e0,show Tryz.prog.cellsOf 25=3 by kernel_rfl] at h0
 have h1:=hf 1 _ rfl
 replace h1:DataW.trod enc Tryz.prog W base sp held n 3 (([z0,z1,z2,z3].drop 3).take (Tryz.prog.cellsOf 3))=xs[1]?:=h1
 obtain ⟨y1,e1⟩:=Zc6 (l:=xs) (i:=1) (by rw [hx];decide)
 rw [e1,show Tryz.prog.cellsOf 3=1 by kernel_rfl] at h1
 obtain ⟨k,tv,tb,sv,sg,c1,c2,c3,c4,c5⟩:=Zk7 hsp h0
 cases c1
 obtain ⟨n1,k1,_,w1⟩:=DataW.trod_int (UL.h (P:=Tryz.prog)) h1
 cases k1
 exact ⟨k,n1,_,tb,_,sg,rfl,c2,c3,c4,c5⟩
theorem Zil (hsp:∀ b,sp b=true) (h:DataW.trod enc Tryz.prog W base sp held fuel 31 cs=some x):∃ (k:Int) (tv:Value) (us:List Int) (pv:Value) (ps:List Prt) (ro ri:Bool),cs=[.int .u8 k,tv,pv,.bool ro,.bool ri]∧(0≤k∧k≤255)∧us.length≤9223372036854775807∧(∀ y∈us,0≤y∧y≤65535)∧ps.length≤9223372036854775807∧(∀ y∈ps,y.ok)∧Rdb (fun b=>W.heap[b]?) (cI .u16) tv us∧Rdb (fun b=>W.heap[b]?) cPrt pv ps:=by
 obtain ⟨xs,n,_,_,hl,hx,hf⟩:=DataW.trod_struct (UL.h (P:=Tryz.prog)) h
 rw [show Tryz.prog.cellsOf 31=5 by kernel_rfl] at hl
 obtain ⟨z0,z1,z2,z3,z4,rfl⟩:=Z0i hl
 have h0:=hf 0 _ rfl
 replace h0:DataW.trod enc Tryz.prog W base sp held n 5 (([z0,z1,z2,z3,z4].drop 0).take (Tryz.prog.cellsOf 5))=xs[0]?:=h0
 obtain ⟨y0,e0⟩:=Zc6 (l:=xs) (i:=0) (by rw [hx];decide)
 rw [e0,show Tryz.prog.cellsOf 5=1 by kernel_rfl] at h0
 have h1:=hf 1 _ rfl
 replace h1:DataW.trod enc Tryz.prog W base sp held n 28 (([z0,z1,z2,z3,z4].drop 1).take (Tryz.prog.cellsOf 28))=xs[1]?:=h1
 obtain ⟨y1,e1⟩:=Zc6 (l:=xs) (i:=1) (by rw [hx];decide)
 rw [e1,show Tryz.prog.cellsOf 28=1 by kernel_rfl] at h1
 have h2:=hf 2 _ rfl
 replace h2:DataW.trod enc Tryz.prog W base sp held n 29 (([z0,z1,z2,z3,z4].drop 2).take (Tryz.prog.cellsOf 29))=xs[2]?:=h2
 obtain ⟨y2,e2⟩:=Zc6 (l:=xs) (i:=2) (by rw [hx];decide)
 rw [e2,show Tryz.prog.cellsOf 29=1 by kernel_rfl] at h2
 have h3:=hf 3 _ rfl
 replace h3:DataW.trod enc Tryz.prog W base sp held n 4 (([z0,z1,z2,z3,z4].drop 3).take (Tryz.prog.cellsOf 4))=xs[3]?:=h3
 obtain ⟨y3,e3⟩:=Zc6 (l:=xs) (i:=3) (by rw [hx];decide)
 rw [e3,show Tryz.prog.cellsOf 4=1 by kernel_rfl] at h3
 have h4:=hf 4 _ rfl
 replace h4:DataW.trod enc Tryz.prog W base sp held n 4 (([z0,z1,z2,z3,z4].drop 4).take (Tryz.prog.cellsOf 4))=xs[4]?:=h4
 obtain ⟨y4,e4⟩:=Zc6 (l:=xs) (i:=4) (by rw [hx];decide)
 rw [e4,show Tryz.prog.cellsOf 4=1 by kernel_rfl] at h4
 obtain ⟨n0,k0,_,w0⟩:=DataW.trod_int (UL.h (P:=Tryz.prog)) h0
 cases k0
 obtain ⟨v1,l1,k1,a1,b1,r1⟩:=Zlv hsp h1
 cases k1
 obtain ⟨v2,l2,k2,a2,b2,r2⟩:=Zmc hsp h2
 cases k2
 obtain ⟨n3,k3,_⟩:=DataW.trod_bool (UL.h (P:=Tryz.prog)) h3
 cases k3
 obtain ⟨n4,k4,_⟩:=DataW.trod_bool (UL.h (P:=Tryz.prog)) h4
 cases k4
 exact ⟨n0,_,l1,_,l2,n3,n4,rfl,Zo9 w0,a1,b1,a2,b2,r1,r2⟩
end Go.Proofs.YtoednejlfbfciaaGreatDoor

/- What the laws on measured patches are handed: drafts, cuts. -/
import Derived.Test.YtciadfpomkdlnaaGreatDoorFw
import Derived.Test.YtciadfpomkdlnaaGreatDoorPl1
set_option maxHeartbeats 1000000
namespace Go.Proofs.YtciadfpomkdlnaaGreatDoor
open Go Go.Sx Go.ChangeShapes Go.WideShapes Go.ChangeAt Go.RowKit
variable {H:Type} {enc:TypeId × Value→H} {W:World} {base:Nat} {sp:Nat→Bool} {held:Bool} {fuel:Nat} {cs:List Value} {x:DataW H × List MemPlace}
theorem Zyw {n:Int} (h:(Lit.int .u8 n).wf=true):0≤n∧n≤255:=by
 simpa [Lit.wf,IntKind.min,IntKind.max,IntKind.signed,IntKind.bits] using h
theorem Zzi {n:Int} (h:(Lit.int .u16 n).wf=true):0≤n∧n≤65535:=by
 simpa [Lit.wf,IntKind.min,IntKind.max,IntKind.signed,IntKind.bits] using h
theorem Zfn {n:Int} (h:(Lit.int .i16 n).wf=true):-32768≤n∧n≤32767:=by
 simpa [Lit.wf,IntKind.min,IntKind.max,IntKind.signed,IntKind.bits] using h
theorem Z12 {α:Type} {l:List α} (h:l.length=7):∃ a b c d e f g,l=[a,b,c,d,e,f,g]:=by
 match l,h with
 | [a,b,c,d,e,f,g],_=>exact ⟨_,_,_,_,_,_,_,rfl⟩
theorem Zrk (h:DataW.trod enc Tryz.prog W base sp held fuel 243 cs=some x):∃ y:W7,cs=c7.enc y∧y.ok:=by
 have h1:AllK .i16 cs:=Zx6 (UL.h (P:=Tryz.prog)) (by kernel_rfl) (fun fu c x hx=>Zx5 (UL.h (P:=Tryz.prog)) hx) h
 obtain ⟨xs,m,_,_,hl,_,_⟩:=DataW.trod_array (UL.h (P:=Tryz.prog) (t:=243)) h
 rw [show Tryz.prog.cellsOf 243=7 by kernel_rfl] at hl
 obtain ⟨a,b,c,d,e,f,g,rfl⟩:=Z12 hl
 obtain ⟨a,rfl,w0⟩:=h1 a (by simp)
 obtain ⟨b,rfl,w1⟩:=h1 b (by simp)
 obtain ⟨c,rfl,w2⟩:=h1 c (by simp)
 obtain ⟨d,rfl,w3⟩:=h1 d (by simp)
 obtain ⟨e,rfl,w4⟩:=h1 e (by simp)
 obtain ⟨f,rfl,w5⟩:=h1 f (by simp)
 obtain ⟨g,rfl,w6⟩:=h1 g (by simp)
 refine ⟨⟨a,b,c,d,e,f,g⟩,rfl,fun v hv=>?_⟩
 simp only [W7.l,List.mem_cons,List.not_mem_nil,or_false] at hv
 rcases hv with rfl|rfl|rfl|rfl|rfl|rfl|rfl
 ·exact Zfn w0
 ·exact Zfn w1
 ·exact Zfn w2
 ·exact Zfn w3
 ·exact Zfn w4
 ·exact Zfn w5
 ·exact Zfn w6
set_option maxRecDepth 100000 in
theorem Zpa (hsp:∀ b,sp b=true) (h:DataW.trod enc Tryz.prog W base sp held fuel 55 cs=some x) :
  ∃ (ch:Nat) (lv:Value) (X:List W7),cs=[.int .u8 (ch:Int),lv]∧ch≤255∧(∀ y∈X,y.ok)∧Rdb (fun b=>W.heap[b]?) c7 lv X:=by
 obtain ⟨xs,n,_,_,hl,hx,hf⟩:=DataW.trod_struct (UL.h (P:=Tryz.prog)) h
 have h0:=hf 0 _ rfl
 replace h0:DataW.trod enc Tryz.prog W base sp held n 5 ((cs.drop 0).take (Tryz.prog.cellsOf 5))=xs[0]?:=h0
 have h1:=hf 1 _ rfl
 replace h1:DataW.trod enc Tryz.prog W base sp held n 53 ((cs.drop 1).take (Tryz.prog.cellsOf 53))=xs[1]?:=h1
 obtain ⟨y0,e0⟩:=Zfj (l:=xs) (i:=0) (by rw [hx];decide)
 obtain ⟨y1,e1⟩:=Zfj (l:=xs) (i:=1) (by rw [hx];decide)
 rw [e0] at h0
 rw [e1] at h1
 rw [show Tryz.prog.cellsOf 55=2 by kernel_rfl] at hl
 obtain ⟨c0,c1,rfl⟩:∃ a b,cs=[a,b]:=by
  match cs,hl with
  | [a,b],_=>exact ⟨_,_,rfl⟩
 rw [show Tryz.prog.cellsOf 5=1 by kernel_rfl] at h0
 rw [show Tryz.prog.cellsOf 53=1 by kernel_rfl] at h1
 obtain ⟨m,a1,_,a2⟩:=DataW.trod_int (UL.h (P:=Tryz.prog)) h0
 cases a1
 obtain ⟨g0,g1⟩:=Zyw a2
 obtain ⟨ch,rfl⟩:=Int.eq_ofNat_of_zero_le g0
 obtain ⟨v',l,b1,_,b3,b4⟩:=Zis (c:=c7) (UL.h (P:=Tryz.prog)) (by kernel_rfl) (by decide) hsp W7.ok (fun fu c x hx=>Zrk hx) h1
 cases b1
 exact ⟨ch,_,l,rfl,by omega,b3,b4⟩
set_option maxRecDepth 100000 in
theorem Zpb (h:DataW.trod enc Tryz.prog W base sp held fuel 69 cs=some x) :
  ∃ (k m:Nat) (z:List UInt8),cs=[.int .u16 (k:Int),.int .u8 (m:Int),.string ⟨z.toArray⟩]∧k≤65535∧m≤255:=by
 obtain ⟨xs,n,_,_,hl,hx,hf⟩:=DataW.trod_struct (UL.h (P:=Tryz.prog)) h
 have h0:=hf 0 _ rfl
 replace h0:DataW.trod enc Tryz.prog W base sp held n 26 ((cs.drop 0).take (Tryz.prog.cellsOf 26))=xs[0]?:=h0
 have h1:=hf 1 _ rfl
 replace h1:DataW.trod enc Tryz.prog W base sp held n 5 ((cs.drop 1).take (Tryz.prog.cellsOf 5))=xs[1]?:=h1
 have h2:=hf 2 _ rfl
 replace h2:DataW.trod enc Tryz.prog W base sp held n 9 ((cs.drop 2).take (Tryz.prog.cellsOf 9))=xs[2]?:=h2
 obtain ⟨y0,e0⟩:=Zfj (l:=xs) (i:=0) (by rw [hx];decide)
 obtain ⟨y1,e1⟩:=Zfj (l:=xs) (i:=1) (by rw [hx];decide)
 obtain ⟨y2,e2⟩:=Zfj (l:=xs) (i:=2) (by rw [hx];decide)
 rw [e0] at h0
 rw [e1] at h1
 rw [e2] at h2
 rw [show Tryz.prog.cellsOf 69=3 by kernel_rfl] at hl
 obtain ⟨c0,c1,c2,rfl⟩:∃ a b c,cs=[a,b,c]:=by
  match cs,hl with
  | [a,b,c],_=>exact ⟨_,_,_,rfl⟩
 rw [show Tryz.prog.cellsOf 26=1 by kernel_rfl] at h0
 rw [show Tryz.prog.cellsOf 5=1 by kernel_rfl] at h1
 rw [show Tryz.prog.cellsOf 9=1 by kernel_rfl] at h2
 obtain ⟨m,a1,_,a2⟩:=DataW.trod_int (UL.h (P:=Tryz.prog)) h0
 cases a1
 obtain ⟨g0,g1⟩:=Zzi a2
 obtain ⟨k,rfl⟩:=Int.eq_ofNat_of_zero_le g0
 obtain ⟨m',b1,_,b2⟩:=DataW.trod_int (UL.h (P:=Tryz.prog)) h1
 cases b1
 obtain ⟨g2,g3⟩:=Zyw b2
 obtain ⟨m,rfl⟩:=Int.eq_ofNat_of_zero_le g2
 obtain ⟨s,d1,_,_⟩:=DataW.trod_string (UL.h (P:=Tryz.prog)) h2
 cases d1
 exact ⟨k,m,s.data.toList,rfl,by omega,by omega⟩
end Go.Proofs.YtciadfpomkdlnaaGreatDoor

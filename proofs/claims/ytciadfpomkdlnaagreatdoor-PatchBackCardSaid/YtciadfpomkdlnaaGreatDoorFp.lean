/- What the laws on measured patches are handed: drafts, cuts. -/
import Derived.Test.YtciadfpomkdlnaaGreatDoorFw
import Derived.Test.YtciadfpomkdlnaaGreatDoorPl1
set_option maxHeartbeats 1000000
namespace Go.Proofs.YtciadfpomkdlnaaGreatDoor
open Go Go.Sx Go.ChangeShapes Go.WideShapes Go.ChangeAt Go.RowKit
variable {H:Type} {enc:TypeId × Value→H} {W:World} {base:Nat} {sp:Nat→Bool} {held:Bool} {fuel:Nat} {cs:List Value} {x:DataW H × List MemPlace}
theorem Zuz {n:Int} (h:(Lit.int .u8 n).wf=true):0≤n∧n≤255:=by
 simpa [Lit.wf,IntKind.min,IntKind.max,IntKind.signed,IntKind.bits] using h
theorem Zgd {n:Int} (h:(Lit.int .i16 n).wf=true):-32768≤n∧n≤32767:=by
 simpa [Lit.wf,IntKind.min,IntKind.max,IntKind.signed,IntKind.bits] using h
theorem Zmv {P:Program} {w:World} {r:Reach} {b0:Nat} {t el:TypeId} {v:Value} (ht:P.underlying t=some (.slice el)) (h:Value.okWide P w r b0 t v):∃ p l c,v=.slice p l c:=by
 simp only [Value.okWide,ht] at h
 unfold Cell.okWide at h
 cases v<;>simp [Cell.ok,ht] at h ⊢
set_option maxRecDepth 100000 in
theorem Zme (hsp:∀ b,sp b=true) {v:Value} (h:DataW.trod enc Tryz.prog W base sp held fuel 49 [v]=some x):∃ xs,(∀ y∈xs,0≤y∧y≤255)∧Rdb (fun b=>W.heap[b]?) (cI .u8) v xs:=by
 obtain ⟨u,xs,h1,_,h3,h4⟩:=Zgj (c:=cI .u8) (UL.h (P:=Tryz.prog)) (by kernel_rfl) (by decide) hsp (fun y=>0≤y∧y≤255) (fun fu c x hx=>by
  obtain ⟨n,h1,_,h2⟩:=DataW.trod_int (UL.h (P:=Tryz.prog)) hx
  exact ⟨n,h1,Zuz h2⟩) h
 cases h1
 exact ⟨xs,h3,h4⟩
theorem Z4f {α:Type} {l:List α} (h:l.length=7):∃ a b c d e f g,l=[a,b,c,d,e,f,g]:=by
 match l,h with
 | [a,b,c,d,e,f,g],_=>exact ⟨_,_,_,_,_,_,_,rfl⟩
theorem Zta (h:DataW.trod enc Tryz.prog W base sp held fuel 243 cs=some x):∃ y:W7,cs=c7.enc y∧y.ok:=by
 have h1:AllK .i16 cs:=Z0g (UL.h (P:=Tryz.prog)) (by kernel_rfl) (fun fu c x hx=>Z0f (UL.h (P:=Tryz.prog)) hx) h
 obtain ⟨xs,m,_,_,hl,_,_⟩:=DataW.trod_array (UL.h (P:=Tryz.prog) (t:=243)) h
 rw [show Tryz.prog.cellsOf 243=7 by kernel_rfl] at hl
 obtain ⟨a,b,c,d,e,f,g,rfl⟩:=Z4f hl
 obtain ⟨a,rfl,w0⟩:=h1 a (by simp)
 obtain ⟨b,rfl,w1⟩:=h1 b (by simp)
 obtain ⟨c,rfl,w2⟩:=h1 c (by simp)
 obtain ⟨d,rfl,w3⟩:=h1 d (by simp)
 obtain ⟨e,rfl,w4⟩:=h1 e (by simp)
 obtain ⟨f,rfl,w5⟩:=h1 f (by simp)
 obtain ⟨g,rfl,w6⟩:=h1 g (by simp)
 refine ⟨⟨a,b,c,d,e,f,g⟩,rfl,fun v hv=>?_⟩
 simp only [W7.l,List.mem_cons,List.not_mem_nil,or_false] at hv
 rcases hv with rfl|rfl|rfl|rfl|rfl|rfl|rfl
 ·exact Zgd w0
 ·exact Zgd w1
 ·exact Zgd w2
 ·exact Zgd w3
 ·exact Zgd w4
 ·exact Zgd w5
 ·exact Zgd w6
set_option maxRecDepth 100000 in
theorem Zgp (hsp:∀ b,sp b=true) (h:DataW.trod enc Tryz.prog W base sp held fuel 55 cs=some x) :
  ∃ (ch:Nat) (lv:Value) (X:List W7),cs=[.int .u8 (ch:Int),lv]∧ch≤255∧(∀ y∈X,y.ok)∧Rdb (fun b=>W.heap[b]?) c7 lv X:=by
 obtain ⟨xs,n,_,_,hl,hx,hf⟩:=DataW.trod_struct (UL.h (P:=Tryz.prog)) h
 have h0:=hf 0 _ rfl
 replace h0:DataW.trod enc Tryz.prog W base sp held n 5 ((cs.drop 0).take (Tryz.prog.cellsOf 5))=xs[0]?:=h0
 have h1:=hf 1 _ rfl
 replace h1:DataW.trod enc Tryz.prog W base sp held n 53 ((cs.drop 1).take (Tryz.prog.cellsOf 53))=xs[1]?:=h1
 obtain ⟨y0,e0⟩:=Zf8 (l:=xs) (i:=0) (by rw [hx];decide)
 obtain ⟨y1,e1⟩:=Zf8 (l:=xs) (i:=1) (by rw [hx];decide)
 rw [e0] at h0
 rw [e1] at h1
 rw [show Tryz.prog.cellsOf 55=2 by kernel_rfl] at hl
 obtain ⟨c0,c1,rfl⟩:∃ a b,cs=[a,b]:=by
  match cs,hl with
  | [a,b],_=>exact ⟨_,_,rfl⟩
 rw [show Tryz.prog.cellsOf 5=1 by kernel_rfl] at h0
 rw [show Tryz.prog.cellsOf 53=1 by kernel_rfl] at h1
 obtain ⟨m,a1,_,a2⟩:=DataW.trod_int (UL.h (P:=Tryz.prog)) h0
 cases a1
 obtain ⟨g0,g1⟩:=Zuz a2
 obtain ⟨ch,rfl⟩:=Int.eq_ofNat_of_zero_le g0
 obtain ⟨v',l,b1,_,b3,b4⟩:=Zgj (c:=c7) (UL.h (P:=Tryz.prog)) (by kernel_rfl) (by decide) hsp W7.ok (fun fu c x hx=>Zta hx) h1
 cases b1
 exact ⟨ch,_,l,rfl,by omega,b3,b4⟩
end Go.Proofs.YtciadfpomkdlnaaGreatDoor

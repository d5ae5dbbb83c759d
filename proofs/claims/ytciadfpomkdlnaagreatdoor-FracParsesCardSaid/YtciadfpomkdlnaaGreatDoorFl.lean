/- What the laws on lists of fractions are handed: two fractions of any texts and two drafts; a list of drafts. -/
import Derived.Test.YtciadfpomkdlnaaGreatDoorFw
import Derived.Test.YtciadfpomkdlnaaGreatDoorLg0
set_option maxHeartbeats 1000000
namespace Go.Proofs.YtciadfpomkdlnaaGreatDoor
open Go Go.Sx Go.ChangeShapes Go.WideShapes Go.ChangeAt Go.RowKit
variable {H:Type} {enc:TypeId × Value→H} {W:World} {base:Nat} {sp:Nat→Bool} {held:Bool} {fuel:Nat} {cs:List Value} {x:DataW H × List MemPlace}
theorem Zg5 (h:DataW.trod enc Tryz.prog W base sp held fuel 22 cs=some x):∃ s:List UInt8,cs=[.string ⟨s.toArray⟩]:=by
 obtain ⟨s,h1,_,_⟩:=DataW.trod_string (UL.h (P:=Tryz.prog)) h
 exact ⟨s.data.toList,by rw [h1]⟩
set_option maxRecDepth 100000 in
theorem Zha (h:DataW.trod enc Tryz.prog W base sp held fuel 24 cs=some x) :
  ∃ a b:List UInt8,cs=[.string ⟨a.toArray⟩,.string ⟨b.toArray⟩]:=by
 obtain ⟨xs,n,_,_,hl,hx,hf⟩:=DataW.trod_struct (UL.h (P:=Tryz.prog)) h
 have h0:=hf 0 _ rfl
 replace h0:DataW.trod enc Tryz.prog W base sp held n 22 ((cs.drop 0).take (Tryz.prog.cellsOf 22))=xs[0]?:=h0
 have h1:=hf 1 _ rfl
 replace h1:DataW.trod enc Tryz.prog W base sp held n 22 ((cs.drop 1).take (Tryz.prog.cellsOf 22))=xs[1]?:=h1
 obtain ⟨y0,e0⟩:=Zec (l:=xs) (i:=0) (by rw [hx];decide)
 obtain ⟨y1,e1⟩:=Zec (l:=xs) (i:=1) (by rw [hx];decide)
 rw [e0] at h0
 rw [e1] at h1
 rw [show Tryz.prog.cellsOf 24=2 by kernel_rfl] at hl
 obtain ⟨c0,c1,rfl⟩:∃ a b,cs=[a,b]:=by
  match cs,hl with
  | [a,b],_=>exact ⟨_,_,rfl⟩
 rw [show Tryz.prog.cellsOf 22=1 by kernel_rfl] at h0 h1
 obtain ⟨a,a1⟩:=Zg5 h0
 obtain ⟨b,b1⟩:=Zg5 h1
 cases a1
 cases b1
 exact ⟨a,b,rfl⟩
theorem Zgw (hsp:∀ b,sp b=true) (h:DataW.trod enc Tryz.prog W base sp held fuel 30 cs=some x):∃ r:R01 × R01,cs=cDD.enc r∧(R02d r).ok∧DOld W r:=by
 obtain ⟨⟨⟨b1,g1,l1,z1⟩,⟨b2,g2,l2,z2⟩⟩,h1,h2,h3,h4⟩:=Zio hsp h
 obtain ⟨p1,c1,e1,_⟩:=h3.len
 obtain ⟨p2,c2,e2,_⟩:=h4.len
 replace e1:g1=.slice p1 l1.length c1:=e1
 replace e2:g2=.slice p2 l2.length c2:=e2
 subst e1 e2
 exact ⟨(⟨b1,p1,c1,l1,z1⟩,⟨b2,p2,c2,l2,z2⟩),h1,h2,h3,h4⟩
set_option maxRecDepth 100000 in
theorem Zkh (hsp:∀ b,sp b=true) (h:DataW.trod enc Tryz.prog W base sp held fuel 32 cs=some x) :
  ∃ t:Two02,cs=t.cells∧(R02d t.x).ok∧(R02d t.y).ok∧DOld W t.x∧DOld W t.y:=by
 obtain ⟨xs,n,_,_,hl,hx,hf⟩:=DataW.trod_struct (UL.h (P:=Tryz.prog)) h
 have h0:=hf 0 _ rfl
 replace h0:DataW.trod enc Tryz.prog W base sp held n 24 ((cs.drop 0).take (Tryz.prog.cellsOf 24))=xs[0]?:=h0
 have h1:=hf 1 _ rfl
 replace h1:DataW.trod enc Tryz.prog W base sp held n 24 ((cs.drop 2).take (Tryz.prog.cellsOf 24))=xs[1]?:=h1
 have h2:=hf 2 _ rfl
 replace h2:DataW.trod enc Tryz.prog W base sp held n 30 ((cs.drop 4).take (Tryz.prog.cellsOf 30))=xs[2]?:=h2
 have h3:=hf 3 _ rfl
 replace h3:DataW.trod enc Tryz.prog W base sp held n 30 ((cs.drop 10).take (Tryz.prog.cellsOf 30))=xs[3]?:=h3
 obtain ⟨y0,e0⟩:=Zec (l:=xs) (i:=0) (by rw [hx];decide)
 obtain ⟨y1,e1⟩:=Zec (l:=xs) (i:=1) (by rw [hx];decide)
 obtain ⟨y2,e2⟩:=Zec (l:=xs) (i:=2) (by rw [hx];decide)
 obtain ⟨y3,e3⟩:=Zec (l:=xs) (i:=3) (by rw [hx];decide)
 rw [e0] at h0
 rw [e1] at h1
 rw [e2] at h2
 rw [e3] at h3
 rw [show Tryz.prog.cellsOf 32=16 by kernel_rfl] at hl
 rw [show Tryz.prog.cellsOf 24=2 by kernel_rfl] at h0 h1
 rw [show Tryz.prog.cellsOf 30=6 by kernel_rfl] at h2 h3
 obtain ⟨a,b,a1⟩:=Zha h0
 obtain ⟨c,d,b1⟩:=Zha h1
 obtain ⟨p,d1,d2,d3⟩:=Zgw hsp h2
 obtain ⟨q,f1,f2,f3⟩:=Zgw hsp h3
 refine ⟨⟨(a,b),(c,d),p,q⟩,?_,d2,f2,d3,f3⟩
 show _=[Value.string ⟨a.toArray⟩,.string ⟨b.toArray⟩]++([Value.string ⟨c.toArray⟩,.string ⟨d.toArray⟩]++(cDD.enc p++cDD.enc q))
 rw [← d1,← f1,← a1,← b1]
 have e:cs.drop 10=(cs.drop 10).take 6:=by rw [List.take_of_length_le];rw [List.length_drop];omega
 rw [← e,show cs.drop 10=(cs.drop 4).drop 6 by rw [List.drop_drop],List.take_append_drop,show cs.drop 4=(cs.drop 2).drop 2 by rw [List.drop_drop],List.take_append_drop,show cs.drop 2=(cs.drop 0).drop 2 by rw [List.drop_drop],List.take_append_drop]
 rfl
theorem Zku {P:Program} {w:World} {r:Reach} {b0:Nat} {t el:TypeId} {v:Value} (ht:P.underlying t=some (.slice el)) (h:Value.okWide P w r b0 t v):∃ p l c,v=.slice p l c:=by
 simp only [Value.okWide,ht] at h
 unfold Cell.okWide at h
 cases v<;>simp [Cell.ok,ht] at h ⊢
set_option maxRecDepth 100000 in
theorem Zjb {v:Value} (hsp:∀ b,sp b=true) (h:DataW.trod enc Tryz.prog W base sp held fuel 33 [v]=some x) :
  ∃ l:List (R01 × R01),l.length≤9223372036854775807∧(∀ r∈l,(R02d r).ok∧DOld W r)∧Rdb (fun b=>W.heap[b]?) cDD v l:=by
 obtain ⟨v',l,h1,h2,h3,h4⟩:=Zh8 (c:=cDD) (UL.h (P:=Tryz.prog)) (by kernel_rfl) (by decide) hsp (fun r=>(R02d r).ok∧DOld W r) (fun fu c x hx=>Zgw hsp hx) h
 cases h1
 exact ⟨l,Nat.le_trans h2 (by decide),h3,h4⟩
end Go.Proofs.YtciadfpomkdlnaaGreatDoor

/- Walks: InkKeeps. -/
import Derived.Test.YtoednejlfbfciaaGreatDoorKl1
set_option maxHeartbeats 1000000
namespace Go.Proofs.YtoednejlfbfciaaGreatDoor
open Go Go.Sx
variable {w0:World} {As:List Ent}
set_option maxRecDepth 100000 in
set_option maxHeartbeats 2000000 in
theorem Zmj (ht:Tab w0) (he:ErrR w0) {a1 a2 a3 a4 l:Int} (h1:0≤a1∧a1≤65535) (h2:0≤a2∧a2≤65535) (h3:0≤a3∧a3≤65535) (h4:0≤a4∧a4≤65535) (hl:0≤l∧l≤4294967295) :
  CallsS Tryz.prog w0 6 [.agg #[.int .u16 a1,.int .u16 a2,.int .u16 a3,.int .u16 a4],.int .u32 l] As fun u _=>u=.bool true:=by
 obtain ⟨N,hN⟩:∃ N,N=l % 262141:=⟨_,rfl⟩
 have hN1:0≤N∧N≤262140:=by omega
 have hok:Ink.ok ⟨a1,a2,a3,a4⟩:=⟨h1.1,h2.1,h3.1,h4.1⟩
 have hless:=Zju hok hN1.1
 have htot:=Zjt hok hN1.1
 have hagain:=Zlb hok hN1.1
 have hcw:cutW ⟨a1,a2,a3,a4⟩ N=(cutI ⟨a1,a2,a3,a4⟩ N,0):=by unfold cutW;rw [if_pos ⟨Zyn.2 ⟨h1,h2,h3,h4⟩,hN1⟩]
 have hdef:cutI ⟨a1,a2,a3,a4⟩ N=if (⟨a1,a2,a3,a4⟩:Ink).tot≤N then ⟨a1,a2,a3,a4⟩ else ⟨partI a1 (N - min a4 N) (a1+a2+a3),partI a2 (N - min a4 N) (a1+a2+a3),partI a3 (N - min a4 N) (a1+a2+a3),min a4 N⟩:=rfl
 generalize hq:cutI ⟨a1,a2,a3,a4⟩ N=q at *
 obtain ⟨q1,q2,q3,q4⟩:=q
 obtain ⟨⟨p1,p2,p3,p4⟩,r1,r2,r3,r4⟩:=hless
 simp only at p1 p2 p3 p4 r1 r2 r3 r4
 unfold Ink.tot Ink.three at htot
 simp only at htot
 refine Zab Tryz.func6 rfl Tryz.ntmps6 rfl ?_
 repeat' first|refine Kz ?_|intro _
 refine Ks rfl (Zen ht he) ?_
 repeat' first|refine Kz ?_|intro _
 refine Ks rfl (Ziy h1 h2 h3 h4) ?_
 repeat' first|refine Kz ?_|intro _
 rename_i b5
 rw [← hN]
 refine TL.callv rfl rfl rfl rfl (Zbe (c:=a1) (m:=a2) (y:=a3) (k:=a4) (n:=N)) ?_
 rw [hcw]
 rintro _ _ ⟨rfl,rfl⟩
 show TL _ _ _ _ _ ((_,.tuple #[.agg #[.int .i64 q1,.int .i64 q2,.int .i64 q3,.int .i64 q4],.int .i64 0])::_) _ _
 repeat' first|refine Kz ?_|intro _
 rename_i b7
 have hc2:cutW ⟨q1,q2,q3,q4⟩ N=(⟨q1,q2,q3,q4⟩,0):=by unfold cutW;rw [if_pos ⟨Zyn.2 ⟨⟨p1,show q1≤65535 by omega⟩,⟨p2,show q2≤65535 by omega⟩,⟨p3,show q3≤65535 by omega⟩,⟨p4,show q4≤65535 by omega⟩⟩,hN1⟩,hagain]
 have ht1:totalW ⟨q1,q2,q3,q4⟩=(q1+q2+q3+q4,0):=by unfold totalW;exact if_pos (Zyn.2 ⟨⟨p1,show q1≤65535 by omega⟩,⟨p2,show q2≤65535 by omega⟩,⟨p3,show q3≤65535 by omega⟩,⟨p4,show q4≤65535 by omega⟩⟩)
 have ht2:totalW ⟨a1,a2,a3,a4⟩=(a1+a2+a3+a4,0):=by unfold totalW;exact if_pos (Zyn.2 ⟨h1,h2,h3,h4⟩)
 refine TL.callv rfl rfl rfl rfl (Zb9 (c:=q1) (m:=q2) (y:=q3) (k:=q4)) ?_
 rw [ht1]
 rintro _ _ ⟨rfl,rfl⟩
 repeat' first|refine Kz ?_|intro _
 refine TL.callv rfl rfl rfl rfl (Zb9 (c:=a1) (m:=a2) (y:=a3) (k:=a4)) ?_
 rw [ht2]
 rintro _ _ ⟨rfl,rfl⟩
 repeat' first|refine Kz ?_|intro _
 refine Zal [.cl b7 [.int .i64 q1,.int .i64 q2,.int .i64 q3,.int .i64 q4] 41] [] (.take 0 (.take 1 (.take 2 (.take 3 (.take 4 (.take 5 (.take 6 (.take 7 (.take 8 (.take 9 (.take 10 (.take 11 (.take 12 (.take 13 (.take 14 (.take 15 (.take 16 (.take 18 (.take 19 (.all [(17,.all [(20,.take 21 (.take 22 (.all [(23,.take 24 (.take 25 (.done)))])))])])))))))))))))))))))) ?_
 repeat' first|refine Kf ?_|intro _|constructor
 refine T1.callv rfl rfl rfl rfl rfl Zb5 ?_
 rintro _ _ ⟨k,rfl,rfl⟩
 repeat' first|refine Kf ?_|intro _|constructor
 refine T1.callv rfl rfl rfl rfl rfl (Zbe (c:=q1) (m:=q2) (y:=q3) (k:=q4) (n:=N)) ?_
 rw [hc2]
 rintro _ _ ⟨rfl,rfl⟩
 show TC _ _ _ _ _ _ _ ((_,.tuple #[.agg #[.int .i64 q1,.int .i64 q2,.int .i64 q3,.int .i64 q4],.int .i64 0])::_) _ _
 repeat' first|refine Kf ?_|intro _|constructor
 refine T1.callv (fst:=[]) rfl rfl rfl rfl rfl (Zaj (.cl k [.int .i64 q1,.int .i64 q2,.int .i64 q3,.int .i64 q4] 41) Zdi) ?_
 rw [decide_eq_true ⟨⟨rfl,rfl,rfl,rfl⟩,rfl⟩]
 rintro _ _ ⟨rfl,rfl⟩
 repeat' first|refine Kf ?_|intro _|constructor
 refine Zax 5 ?_
 iterate 4
  repeat' first|refine Kf ?_|intro _|constructor
  refine Zal [.cl b7 [.int .i64 q1,.int .i64 q2,.int .i64 q3,.int .i64 q4] 41,.cl b5 [.int .i64 a1,.int .i64 a2,.int .i64 a3,.int .i64 a4] 41] [] (.take 0 (.take 1 (.take 2 (.take 3 (.take 4 (.take 5 (.take 6 (.take 7 (.take 8 (.take 9 (.take 10 (.take 11 (.take 12 (.done)))))))))))))) ?_
  repeat' first|refine Kf ?_|intro _|constructor
 repeat' first|refine Kf ?_|intro _|constructor
 by_cases hle:a1+a2+a3+a4≤N
 ·have e:(⟨q1,q2,q3,q4⟩:Ink)=⟨a1,a2,a3,a4⟩:=by rw [hdef];exact if_pos hle
  obtain ⟨e1,e2,e3,e4⟩:=Ink.mk.inj e
  repeat' first|refine Kf ?_|intro _|constructor
  refine TL.f rfl rfl (Zf7 rfl rfl) ?_
  rw [decide_eq_true (⟨e1,e2,e3,e4⟩:q1=a1∧q2=a2∧q3=a3∧q4=a4)]
  repeat' first|refine Kz ?_|intro _
  (refine Zac ?_)
  exact ⟨_,rfl,Ents.refl _⟩
 ·obtain ⟨e1,e2⟩:=htot.2 hle
  have e3:a1+a2+a3=0∨N - 3≤q1+q2+q3+q4:=e2
  by_cases hs:a1+a2+a3=0
  ·repeat' first|refine Kf ?_|intro _|constructor
   (refine Zac ?_)
   exact ⟨_,rfl,Ents.refl _⟩
  ·repeat' first|refine Kf ?_|intro _|constructor
   (refine Zac ?_)
   exact ⟨_,congrArg Value.bool (decide_eq_true (show N - 3≤q1+q2+q3+q4 by omega)),Ents.refl _⟩
end Go.Proofs.YtoednejlfbfciaaGreatDoor

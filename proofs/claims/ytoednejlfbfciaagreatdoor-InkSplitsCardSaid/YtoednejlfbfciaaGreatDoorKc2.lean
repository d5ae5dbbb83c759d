/- Walks: curves: valid segments, tables, curves. -/
import Derived.Test.YtoednejlfbfciaaGreatDoorKc1
set_option maxHeartbeats 1000000
namespace Go.Sx
open Go
def segOk (f:Int) (s:Seg):Prop:=s.fine∧f < s.till∧s.till≤1000000
instance (f:Int) (s:Seg):Decidable (segOk f s):=by unfold segOk;infer_instance
end Go.Sx
namespace Go.Proofs.YtoednejlfbfciaaGreatDoor
open Go Go.Sx
variable {w0:World} {As:List Ent} {kv:Int} {tv sv:Value} {tab:List Int} {ss:List Seg}
theorem Zb7 {n l h:Int}:CQ Tryz.prog w0 66 [.int .i64 n,.int .i64 l,.int .i64 h] As (.bool (decide (l≤n∧n≤h))):=by
 refine Zab Tryz.func66 rfl Tryz.ntmps66 rfl ?_
 by_cases h0:l≤n
 ·repeat' first|refine Kz ?_|intro _
  (refine Zac ?_)
  exact ⟨_,⟨by simp [h0],rfl⟩,Zaa⟩
 ·repeat' first|refine Kz ?_|intro _
  (refine Zac ?_)
  exact ⟨_,⟨by simp [h0],rfl⟩,Zaa⟩
set_option maxRecDepth 100000 in
theorem Zvh {s:Seg} {f:Int} {b:Bool} (hf:0≤f∧f≤1000000):CQ Tryz.prog w0 67 [pieceV s f b] As (.bool (decide (segOk f s))):=by
 refine Zab Tryz.func67 rfl Tryz.ntmps67 rfl ?_
 show Tri _ _ _ _ (env0 0 [.agg #[.int .i64 s.till,.int .i64 s.mul,.int .i64 s.add,.int .i64 s.num,.int .i64 s.den,.int .i64 s.off,.int .i64 f,.bool b]]) _ _
 repeat' first|refine Kz ?_|intro _
 rename_i b1
 refine Zbh 4 ?_
 repeat' first|refine Kz ?_|intro _
 refine Ks rfl Zb7 ?_
 by_cases h1:-100000000≤s.mul∧s.mul≤100000000
 case neg =>
  rw [decide_eq_false h1]
  repeat' first|refine Kz ?_|intro _
  (refine Zac ?_)
  exact ⟨_,⟨by rw [decide_eq_false (fun k=>h1 k.1.1)],rfl⟩,Zaa⟩
 rw [decide_eq_true h1]
 repeat' first|refine Kz ?_|intro _
 refine Ks rfl Zb7 ?_
 by_cases h2:-100000000≤s.add∧s.add≤100000000
 case neg =>
  rw [decide_eq_false h2]
  repeat' first|refine Kz ?_|intro _
  (refine Zac ?_)
  exact ⟨_,⟨by rw [decide_eq_false (fun k=>h2 k.1.2.1)],rfl⟩,Zaa⟩
 rw [decide_eq_true h2]
 repeat' first|refine Kz ?_|intro _
 refine Ks rfl Zb7 ?_
 by_cases h3:-100000000≤s.off∧s.off≤100000000
 case neg =>
  rw [decide_eq_false h3]
  repeat' first|refine Kz ?_|intro _
  (refine Zac ?_)
  exact ⟨_,⟨by rw [decide_eq_false (fun k=>h3 k.1.2.2.1)],rfl⟩,Zaa⟩
 rw [decide_eq_true h3]
 repeat' first|refine Kz ?_|intro _
 refine Ks rfl Zb7 ?_
 by_cases h4:f+1≤s.till∧s.till≤1000000
 case neg =>
  rw [decide_eq_false h4]
  repeat' first|refine Kz ?_|intro _
  (refine Zac ?_)
  exact ⟨_,⟨by rw [decide_eq_false (fun k=>h4 ⟨k.2.1,k.2.2⟩)],rfl⟩,Zaa⟩
 rw [decide_eq_true h4]
 repeat' first|refine Kz ?_|intro _
 refine Ks rfl Zb7 ?_
 by_cases h5:1≤s.num∧s.num≤36
 case neg =>
  rw [decide_eq_false h5]
  repeat' first|refine Kz ?_|intro _
  (refine Zac ?_)
  exact ⟨_,⟨by rw [decide_eq_false (fun k=>h5 k.1.2.2.2.1)],rfl⟩,Zaa⟩
 rw [decide_eq_true h5]
 repeat' first|refine Kz ?_|intro _
 refine Ks rfl Zb7 ?_
 by_cases h6:1≤s.den∧s.den≤12
 case neg =>
  rw [decide_eq_false h6]
  repeat' first|refine Kz ?_|intro _
  (refine Zac ?_)
  exact ⟨_,⟨by rw [decide_eq_false (fun k=>h6 k.1.2.2.2.2.1)],rfl⟩,Zaa⟩
 rw [decide_eq_true h6]
 repeat' first|refine Kz ?_|intro _
 obtain ⟨x,hx⟩:∃ x:Nat,s.num=(x:Int):=⟨s.num.toNat,by omega⟩
 obtain ⟨y,hy⟩:∃ y:Nat,s.den=(y:Int):=⟨s.den.toNat,by omega⟩
 have hg:Int.gcd s.num s.den=Nat.gcd x y:=by rw [hx,hy];rfl
 rw [hx,hy]
 refine Zau (.take 0 (.take 1 (.take 2 (.take 3 (.take 4 (.take 5 (.take 6 (.take 7 (.done))))))))) ?_
 repeat' first|refine Kf ?_|intro _|constructor
 refine Tri.loop (ι:=Nat × Nat) (fun r=>Nat.gcd r.1 r.2=Nat.gcd x y∧r.1≤36∧r.2≤36) (fun r=>r.2)
  (fun r=>[(5,.int .i64 (r.1:Int)),(6,.int .i64 (r.2:Int))]) (fun _=>As) (x,y) ⟨rfl,by simp only;omega,by simp only;omega⟩ Zae Zaa ?_
 intro ⟨p,q⟩ ⟨hpq,hp,hq⟩
 simp only at hpq hp hq
 show Tri _ _ _ _ [(5,.int .i64 (p:Int)),(6,.int .i64 (q:Int))] _ _
 repeat' first|refine Kz ?_|intro _
 (refine Kx (fun hc=>?_) fun hc=>?_)
 ·repeat' first|refine Kz ?_|intro _
  refine Zau (.take 0 (.take 1 (.take 2 (.take 3 (.take 4 (.take 5 (.done))))))) ?_
  repeat' first|refine Kf ?_|intro _|constructor
  rw [← Int.natCast_emod]
  repeat' first|refine Kf ?_|intro _|constructor
  have hq0:0 < q:=by omega
  have:=Nat.mod_lt p hq0
  exact Post.round (q,p % q) ⟨by rw [← hpq,Nat.gcd_comm p q,Nat.gcd_rec q p,Nat.gcd_comm],hq,by simp only;omega⟩ (by simp only;omega) Zae Zaa
 ·have hq0:q=0:=by omega
  subst hq0
  rw [Nat.gcd_zero_right] at hpq
  repeat' first|refine Kz ?_|intro _
  (refine Zac ?_)
  refine ⟨_,⟨?_,rfl⟩,Zaa⟩
  congr 1
  rw [decide_eq_decide]
  refine ⟨fun h=>⟨⟨h1,h2,h3,h5,h6,by rw [hg,← hpq];omega⟩,by omega,h4.2⟩,fun h=>?_⟩
  have:=h.1.2.2.2.2.2
  rw [hg,← hpq] at this
  omega
theorem Zk9 [RdIn As tv Int (cI .i64) tab] (hl:tab.length≤1000000000):CQ Tryz.prog w0 46 [tv] As (.bool (decide ((2≤tab.length∧tab.length≤17)∧inW 65535 tab))):=by
 refine Zab Tryz.func46 rfl Tryz.ntmps46 rfl ?_
 by_cases h0:tab.length < 2
 ·repeat' first|refine Kz ?_|intro _
  (refine Zac ?_)
  exact ⟨_,⟨by rw [decide_eq_false (fun k=>by omega)],rfl⟩,Zaa⟩
 by_cases h1:17 < tab.length
 ·repeat' first|refine Kz ?_|intro _
  (refine Zac ?_)
  exact ⟨_,⟨by rw [decide_eq_false (fun k=>by omega)],rfl⟩,Zaa⟩
 repeat' first|refine Kz ?_|intro _
 refine Tri.loop (ι:=Nat) (fun k=>k≤tab.length∧inW 65535 (tab.take k)) (fun k=>tab.length - k)
  (fun k=>[(13,tv),(14,.int .i64 tab.length),(15,.int .i64 k)]) (fun _=>As) 0 ⟨by omega,fun _ h=>by simp at h⟩ Zae Zaa ?_
 intro k ⟨hk,hf⟩
 repeat' first|refine Kz ?_|intro _
 (refine Kx (fun hc=>?_) fun hc=>?_)
 ·obtain ⟨p,hp⟩:∃ p,tab[k]?=some p:=⟨_,List.getElem?_eq_getElem (by omega)⟩
  have hm:=List.mem_of_getElem? hp
  repeat' first|refine Kz ?_|intro _
  refine Ks rfl Zb7 ?_
  by_cases h2:0≤p∧p≤65535
  ·rw [decide_eq_true h2]
   repeat' first|refine Kz ?_|intro _
   exact Post.round (k+1) ⟨by omega,Zho hf hp h2⟩ (by omega) Zae Zaa
  ·rw [decide_eq_false h2]
   repeat' first|refine Kz ?_|intro _
   (refine Zac ?_)
   exact ⟨_,⟨by rw [decide_eq_false (fun g=>h2 (g.2 p hm))],rfl⟩,Zaa⟩
 ·repeat' first|refine Kz ?_|intro _
  (refine Zac ?_)
  exact ⟨_,⟨by rw [decide_eq_true ⟨⟨by omega,by omega⟩,by rw [List.take_of_length_le (by omega)] at hf;exact hf⟩],rfl⟩,Zaa⟩
end Go.Proofs.YtoednejlfbfciaaGreatDoor

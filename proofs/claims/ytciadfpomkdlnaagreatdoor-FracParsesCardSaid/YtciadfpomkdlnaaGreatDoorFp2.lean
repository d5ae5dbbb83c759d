/- Walks: the reference on fractions: sums. -/
import Derived.Test.YtciadfpomkdlnaaGreatDoorFp1
set_option maxHeartbeats 1000000
namespace Go.Proofs.YtciadfpomkdlnaaGreatDoor.Q
open Go Go.Sx
theorem Zx3 {xs:List Rat} {x:Rat}:sumQ 0 (xs++[x])=sumQ 0 xs+x:=by unfold sumQ;rw [List.foldl_append];rfl
end Go.Proofs.YtciadfpomkdlnaaGreatDoor.Q
namespace Go.Proofs.YtciadfpomkdlnaaGreatDoor
open Go Go.Sx
variable {w0:World} {As:List Ent}
theorem Fit.quds' {k:Nat} {r:Rat} (h:Fit k r):(qud r.num.natAbs).length≤k∧(qud (r.den:Int).natAbs).length≤k:=by
 rw [Int.natAbs_natCast];exact h.qud
set_option maxHeartbeats 4000000 in
theorem Zoo {v:Value} {l:List (List UInt8 × List UInt8)} [hr:RdIn As v (List UInt8 × List UInt8) cF l] (hll:l.length≤1000000000) (hs:∀ p∈l,p.1.length≤1000000000∧p.2.length≤1000000000)
  (hB:l.length≤300→∀ k xs,Q.readL (l.take k)=some xs→Fit 2000 (Q.sumQ 0 xs)) :
  CQ Tryz.prog w0 16 [v] As (.tuple #[.agg #[.string ⟨(Q.sumO l).1.toArray⟩,.string ⟨(Q.sumO l).2.1.toArray⟩],.int .i64 (Q.sumO l).2.2]):=by
 refine Zab Tryz.func16 rfl Tryz.ntmps16 rfl ?_
 repeat' first|refine Kz ?_|intro _
 by_cases h300:(300:Int) < l.length
 ·rw [Q.sumO,if_pos (by omega)]
  repeat' first|refine Kz ?_|intro _
  exact Kv
 rw [Q.sumO,if_neg (by omega)]
 replace hB:=hB (by omega)
 repeat' first|refine Kz ?_|intro _
 rename_i b2
 refine TL.callv rfl rfl rfl rfl (Q.Zko (x:=0) (y:=1) (by decide) (by decide)) ?_
 rw [show mkRat 0 (1:Int).toNat=0 by decide +kernel]
 rintro _ _ ⟨p1,c1,p2,c2,rfl,rfl⟩
 repeat' first|refine Kz ?_|intro _
 rename_i b4
 refine Tri.loop (ι:=Nat × List Rat × (Option Addr × Nat) × (Option Addr × Nat)) (fun x=>x.1≤l.length∧Q.readL (l.take x.1)=some x.2.1) (fun x=>l.length - x.1)
  (fun x=>[(0,v),(2,.pointer (some ⟨b2,0,none⟩)),(3,.int .i64 0),(4,.pointer (some ⟨b4,0,none⟩)),(5,.int .i64 (x.1:Int))])
  (fun x=>.cl b4 [.bool (decide ((Q.sumQ 0 x.2.1).num < 0)),.slice x.2.2.1.1 (qud (Q.sumQ 0 x.2.1).num.natAbs).length x.2.2.1.2,.bool (decide (((Q.sumQ 0 x.2.1).den:Int) < 0)),.slice x.2.2.2.1 (qud ((Q.sumQ 0 x.2.1).den:Int).natAbs).length x.2.2.2.2] 117 ::
   .ft (rd (cN .i64) (.slice x.2.2.2.1 (qud ((Q.sumQ 0 x.2.1).den:Int).natAbs).length x.2.2.2.2) (qud ((Q.sumQ 0 x.2.1).den:Int).natAbs))::.ft (rd (cN .i64) (.slice x.2.2.1.1 (qud (Q.sumQ 0 x.2.1).num.natAbs).length x.2.2.1.2) (qud (Q.sumQ 0 x.2.1).num.natAbs)) ::
   .cl b2 [.string ⟨#[]⟩,.string ⟨#[]⟩] 24::As) (0,[],(p1,c1),(p2,c2)) ⟨Nat.zero_le _,by simp [Q.readL]⟩ Zae (by show Ents _ (.cl b4 [.bool (decide ((0:Rat).num < 0)),.slice p1 (qud (0:Rat).num.natAbs).length c1,.bool (decide (((0:Rat).den:Int) < 0)),.slice p2 (qud ((0:Rat).den:Int).natAbs).length c2] _::.ft (rd (cN .i64) (.slice p2 (qud ((0:Rat).den:Int).natAbs).length c2) (qud ((0:Rat).den:Int).natAbs))::.ft (rd (cN .i64) (.slice p1 (qud (0:Rat).num.natAbs).length c1) (qud (0:Rat).num.natAbs))::_);(exact Zaa)) ?_
 rintro ⟨k,xs,⟨p3,c3⟩,⟨p4,c4⟩⟩ ⟨hk,hx⟩
 simp only at hk hx
 have hF:=hB k xs hx
 obtain ⟨l1,l2⟩:=Fit.quds' hF
 have hsn:=fun x=>Q.Zx3 (xs:=xs) (x:=x)
 show Tri _ _ _ _ [(0,v),(2,_),(3,_),(4,_),(5,.int .i64 (k:Int))] (.cl b4 [.bool (decide ((Q.sumQ 0 xs).num < 0)),.slice p3 (qud (Q.sumQ 0 xs).num.natAbs).length c3,.bool (decide (((Q.sumQ 0 xs).den:Int) < 0)),.slice p4 (qud ((Q.sumQ 0 xs).den:Int).natAbs).length c4] _::.ft (rd (cN .i64) (.slice p4 (qud ((Q.sumQ 0 xs).den:Int).natAbs).length c4) (qud ((Q.sumQ 0 xs).den:Int).natAbs))::.ft (rd (cN .i64) (.slice p3 (qud (Q.sumQ 0 xs).num.natAbs).length c3) (qud (Q.sumQ 0 xs).num.natAbs))::_) _
 repeat' first|refine Kz ?_|intro _
 (refine Kx (fun hc=>?_) fun hc=>?_)
 ·obtain ⟨⟨a,b⟩,hab⟩:∃ p,l[k]?=some p:=⟨_,List.getElem?_eq_getElem (by omega)⟩
  have hmem:=List.mem_of_getElem? hab
  obtain ⟨la,lb⟩:=hs _ hmem
  simp only at la lb
  repeat' first|refine Kz ?_|intro _
  refine Ks rfl (Zh6 la lb) ?_
  cases hq:readF a b with
  | none =>
   rw [Q.Zjs (p:=(a,b)) hq hmem]
   repeat' first|refine Kz ?_|intro _
   exact Kv
  | some r =>
   obtain ⟨hrf,rfl,rfl⟩:=Zh7 hq
   obtain ⟨l3,l4⟩:=Zgb hrf
   have hx':=Q.Zjr (p:=(textI r.num,textI (r.den:Int))) hq hx
   have ht:l.take (k+1)=l.take k++[(textI r.num,textI (r.den:Int))]:=by rw [List.take_add_one,hab];rfl
   rw [← ht] at hx'
   repeat' first|refine Kz ?_|intro _
   refine Zbg As [(0,.c b4)] (.take 0 (.take 1 (.take 2 (.take 3 (.take 4 (.all [(5,.all [(6,.all [(7,.done)])])])))))) ?_
   repeat' first|refine Kf ?_|intro _|constructor
   refine T1.callv rfl rfl rfl rfl rfl (Znr hrf) ?_
   rintro _ _ ⟨p5,c5,p6,c6,rfl,rfl⟩
   repeat' first|refine Kf ?_|intro _|constructor
   refine T1.callv rfl rfl rfl rfl rfl (Zox (n1:=(Q.sumQ 0 xs).num) (d1:=((Q.sumQ 0 xs).den:Int)) (n2:=r.num) (d2:=(r.den:Int)) (v1:=.slice p3 (qud (Q.sumQ 0 xs).num.natAbs).length c3) (v2:=.slice p4 (qud ((Q.sumQ 0 xs).den:Int).natAbs).length c4) (v3:=.slice p5 (qud r.num.natAbs).length c5) (v4:=.slice p6 (qud (r.den:Int).natAbs).length c6) (den_mul _ _) (Zsj _ _) (by omega) (by omega) (by omega) (by omega)) ?_
   rw [← hsn]
   rintro _ _ ⟨p7,c7,p8,c8,rfl,rfl⟩
   repeat' first|refine Kf ?_|intro _|constructor
   refine Post.round (k+1,xs++[r],(p7,c7),(p8,c8)) ⟨by simp only;omega,hx'⟩ (by simp only;omega) Zae ?_
   show Ents _ (.cl b4 [.bool (decide ((Q.sumQ 0 (xs++[r])).num < 0)),.slice p7 (qud (Q.sumQ 0 (xs++[r])).num.natAbs).length c7,.bool (decide (((Q.sumQ 0 (xs++[r])).den:Int) < 0)),.slice p8 (qud ((Q.sumQ 0 (xs++[r])).den:Int).natAbs).length c8] _::.ft (rd (cN .i64) (.slice p8 (qud ((Q.sumQ 0 (xs++[r])).den:Int).natAbs).length c8) (qud ((Q.sumQ 0 (xs++[r])).den:Int).natAbs))::.ft (rd (cN .i64) (.slice p7 (qud (Q.sumQ 0 (xs++[r])).num.natAbs).length c7) (qud (Q.sumQ 0 (xs++[r])).num.natAbs))::_)
   (exact Zaa)
 ·obtain rfl:k=l.length:=by omega
  rw [List.take_length] at hx
  rw [hx]
  simp only
  repeat' first|refine Kz ?_|intro _
  refine Ks rfl (Q.Zks (v:=.slice p3 (qud (Q.sumQ 0 xs).num.natAbs).length c3) (o:=.slice p4 (qud ((Q.sumQ 0 xs).den:Int).natAbs).length c4) (r:=Q.sumQ 0 xs) (by omega) (by omega)) ?_
  repeat' first|refine Kz ?_|intro _
  exact Kv
end Go.Proofs.YtciadfpomkdlnaaGreatDoor

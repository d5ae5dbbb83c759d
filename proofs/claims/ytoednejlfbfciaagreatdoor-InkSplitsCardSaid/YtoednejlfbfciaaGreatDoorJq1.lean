/- Walks: the reference on fractions: which are valid, reading, comparing. -/
import Derived.Test.YtoednejlfbfciaaGreatDoorCd1
import Derived.Test.YtoednejlfbfciaaGreatDoorCc3
import Derived.Test.YtoednejlfbfciaaGreatDoorVb1
import Derived.Test.YtoednejlfbfciaaGreatDoorCc1
set_option maxHeartbeats 1000000
namespace Go.Sx
open Go
theorem Zqn:textI 1=[49]:=by rw [Zbi,if_neg (by omega)];exact Zbo (by decide)
end Go.Sx
namespace Go.Proofs.YtoednejlfbfciaaGreatDoor
open Go Go.Sx
variable {w0:World} {As:List Ent}
theorem Zaw {r:Rat} (hr:Fit 600 r):CQ Tryz.prog w0 60 [.agg #[.string ⟨(tN r).toArray⟩,.string ⟨(tD r).toArray⟩]] As (.bool true):=by
 have r1:readW (tN r)=some r.num:=Za8 hr.1
 have r2:readW (tD r)=some (r.den:Int):=Za8 (by rw [Int.natAbs_natCast];exact hr.2)
 obtain ⟨l1,l2⟩:=hr.qud
 have l3:(qud (r.den:Int).natAbs).length≤600:=by rw [Int.natAbs_natCast];exact l2
 have hl0:(qud (r.den:Int).natAbs).length≠0:=by
  intro h
  have h1:valQ (qud (r.den:Int).natAbs)=0:=by rw [List.length_eq_zero_iff.1 h];rfl
  rw [Zal,Int.natAbs_natCast] at h1
  exact r.den_nz h1
 have hg:gcdI r.num (r.den:Int)=1:=by
  have:=r.reduced
  unfold Nat.Coprime at this
  unfold gcdI
  rw [Int.natAbs_natCast,this];rfl
 refine Zab Tryz.func60 rfl Tryz.ntmps60 rfl ?_
 repeat' first|refine Kz ?_|intro _
 refine Kt rfl (Zl9 (s:=tN r) (Zch hr)) ?_
 rw [r1]
 repeat' first|refine Kz ?_|intro _
 refine Kt rfl (Zl9 (s:=tD r) (Zci hr)) ?_
 rw [r2]
 repeat' first|refine Kz ?_|intro _
 rename_i b1
 refine Tri.mid (fun e' As'=>∃ p c q d b3 b4,e'=[(1,.pointer (some ⟨b1,0,none⟩)),(2,.bool false),(3,.pointer (some ⟨b3,0,none⟩)),(4,.pointer (some ⟨b4,0,none⟩))] ∧
  As'=.cl b3 [.bool (decide (r.num < 0)),.slice p (qud r.num.natAbs).length c] 98::.cl b4 [.bool (decide ((r.den:Int) < 0)),.slice q (qud (r.den:Int).natAbs).length d] 98 ::
   .ft (rd (cN .i64) (.slice p (qud r.num.natAbs).length c) (qud r.num.natAbs))::.ft (rd (cN .i64) (.slice q (qud (r.den:Int).natAbs).length d) (qud (r.den:Int).natAbs))::As) ?_ ?_
 ·refine Zaj [.cl b1 [.string ⟨(tN r).toArray⟩,.string ⟨(tD r).toArray⟩] 72] [] (.take 0 (.take 1 (.take 3 (.take 4 (.all [(2,.all [(5,.all [(6,.all [(7,.all [(8,.all [(9,.done)])])]),(7,.all [(6,.all [(8,.all [(9,.done)])])])]),(6,.all [(5,.all [(7,.all [(8,.all [(9,.done)])])]),(7,.all [(5,.all [(8,.all [(9,.done)])])])]),(7,.all [(5,.all [(6,.all [(8,.all [(9,.done)])])]),(6,.all [(5,.all [(8,.all [(9,.done)])])])])]),(6,.all [(2,.all [(5,.all [(7,.all [(8,.all [(9,.done)])])]),(7,.all [(5,.all [(8,.all [(9,.done)])])])]),(7,.all [(2,.all [(5,.all [(8,.all [(9,.done)])])])])]),(7,.all [(2,.all [(5,.all [(6,.all [(8,.all [(9,.done)])])]),(6,.all [(5,.all [(8,.all [(9,.done)])])])]),(6,.all [(2,.all [(5,.all [(8,.all [(9,.done)])])])])])]))))) ?_
  repeat' first|refine Kf ?_|intro _|constructor
  repeat' (first|(refine T1.callv rfl rfl rfl rfl rfl (Zpt r1) ?_;rintro _ _ ⟨p1,c1,rfl,rfl⟩;(repeat' first|refine Kf ?_|intro _|constructor))|(refine T1.callv rfl rfl rfl rfl rfl (Zpt r2) ?_;rintro _ _ ⟨p2,c2,rfl,rfl⟩;(repeat' first|refine Kf ?_|intro _|constructor)))
  all_goals exact Post.cut _ _ ⟨p1,c1,p2,c2,_,_,rfl,rfl⟩ Zae Zaa
 rintro _ _ ⟨p,c,q,d,b3,b4,rfl,rfl⟩
 rw [show decide ((r.den:Int) < 0)=false from decide_eq_false (by omega)]
 have hl1:((qud (r.den:Int).natAbs).length:Int)≠0:=by omega
 repeat' first|refine Kz ?_|intro _
 have hdv:=fun Bs [FtIn Bs (.slice p (qud r.num.natAbs).length c) Nat (cN .i64) (qud r.num.natAbs)] [FtIn Bs (.slice q (qud (r.den:Int).natAbs).length d) Nat (cN .i64) (qud (r.den:Int).natAbs)]=>Zij (w0:=w0) (As:=Bs) (v:=.slice p (qud r.num.natAbs).length c) (o:=.slice q (qud (r.den:Int).natAbs).length d) (x:=r.num) (y:=(r.den:Int)) (by omega) (by omega)
 rw [show decide ((r.den:Int) < 0)=false from decide_eq_false (by omega),hg] at hdv
 refine TL.callv rfl rfl rfl rfl (hdv _) ?_
 rintro _ _ ⟨q3,d3,rfl,rfl⟩
 repeat' first|refine Kz ?_|intro _
 refine Kt rfl (Zpa (z:=1) (Nat.le_trans (Zas (k:=1) (by decide)) (by decide))) ?_
 rw [Zqn]
 repeat' first|refine Kz ?_|intro _
 exact Kv
theorem Zbn {r:Rat} (hr:Fit 600 r):CallsS Tryz.prog w0 64 [.agg #[.string ⟨(tN r).toArray⟩,.string ⟨(tD r).toArray⟩]] As (Q.RatP As r):=by
 have r1:readW (tN r)=some r.num:=Za8 hr.1
 have r2:readW (tD r)=some (r.den:Int):=Za8 (by rw [Int.natAbs_natCast];exact hr.2)
 refine Zab Tryz.func64 rfl Tryz.ntmps64 rfl ?_
 repeat' first|refine Kz ?_|intro _
 rename_i b1 b2
 refine Zaj [.cl b1 [.string ⟨(tN r).toArray⟩,.string ⟨(tD r).toArray⟩] 72] [] (.take 0 (.take 1 (.take 3 (.take 4 (.all [(2,.all [(5,.take 6 (.all [(7,.done)]))])]))))) ?_
 repeat' first|refine Kf ?_|intro _|constructor
 refine T1.callv rfl rfl rfl rfl rfl (Zpt r1) ?_
 rintro _ _ ⟨p1,c1,rfl,rfl⟩
 repeat' first|refine Kf ?_|intro _|constructor
 refine T1.callv rfl rfl rfl rfl rfl (Zpt r2) ?_
 rintro _ _ ⟨p2,c2,rfl,rfl⟩
 repeat' first|refine Kf ?_|intro _|constructor
 (refine Zac ?_)
 exact ⟨_,⟨p1,c1,p2,c2,rfl,rfl⟩,Zaa⟩
theorem Ze3 {v1 v2 v3 v4:Value} {r s:Rat} [RdIn As v1 Nat (cN .i64) (qud r.num.natAbs)] [RdIn As v2 Nat (cN .i64) (qud (r.den:Int).natAbs)] [RdIn As v3 Nat (cN .i64) (qud s.num.natAbs)] [RdIn As v4 Nat (cN .i64) (qud (s.den:Int).natAbs)] (hr:Fit 600 r) (hs:Fit 600 s) :
  CQ Tryz.prog w0 134 [.agg #[.bool (decide (r.num < 0)),v1,.bool (decide ((r.den:Int) < 0)),v2],.agg #[.bool (decide (s.num < 0)),v3,.bool (decide ((s.den:Int) < 0)),v4]] As (.int .i64 (ordQ r s)):=by
 obtain ⟨l1,l2⟩:=hr.qud
 obtain ⟨l3,l4⟩:=hs.qud
 rw [← Int.natAbs_natCast r.den] at l2
 rw [← Int.natAbs_natCast s.den] at l4
 have k1:=Za3 r.num.natAbs (s.den:Int).natAbs
 rw [← Int.natAbs_mul] at k1
 have k2:=Za3 s.num.natAbs (r.den:Int).natAbs
 rw [← Int.natAbs_mul] at k2
 refine Zab Tryz.func134 rfl Tryz.ntmps134 rfl ?_
 repeat' first|refine Kz ?_|intro _
 rename_i b2 b3
 refine Zaj [.cl b2 [.bool (decide (r.num < 0)),v1,.bool (decide ((r.den:Int) < 0)),v2] 101,.cl b3 [.bool (decide (s.num < 0)),v3,.bool (decide ((s.den:Int) < 0)),v4] 101] [] (.take 0 (.take 1 (.take 2 (.take 3 (.take 5 (.take 6 (.take 7 (.take 8 (.all [(4,.all [(9,.all [(10,.take 11 (.done))])])]))))))))) ?_
 repeat' first|refine Kf ?_|intro _|constructor
 refine T1.callv rfl rfl rfl rfl rfl (Zb1 (v:=v1) (o:=v4) (x:=r.num) (y:=(s.den:Int)) (by omega) (by omega)) ?_
 rintro _ _ ⟨p1,c1,rfl,rfl⟩
 repeat' first|refine Kf ?_|intro _|constructor
 refine T1.callv rfl rfl rfl rfl rfl (Zb1 (v:=v3) (o:=v2) (x:=s.num) (y:=(r.den:Int)) (by omega) (by omega)) ?_
 rintro _ _ ⟨p2,c2,rfl,rfl⟩
 repeat' first|refine Kf ?_|intro _|constructor
 refine Ku rfl (Zh6 (v:=.slice p1 (qud (r.num * (s.den:Int)).natAbs).length c1) (o:=.slice p2 (qud (s.num * (r.den:Int)).natAbs).length c2) (x:=r.num * (s.den:Int)) (y:=s.num * (r.den:Int)) (by omega) (by omega)) ?_
 repeat' first|refine Kf ?_|intro _|constructor
 exact Kv
theorem Zwr {r s:Rat} (hr:Fit 600 r) (hs:Fit 600 s):CQ Tryz.prog w0 135 [.agg #[.string ⟨(tN r).toArray⟩,.string ⟨(tD r).toArray⟩],.agg #[.string ⟨(tN s).toArray⟩,.string ⟨(tD s).toArray⟩]] As (.tuple #[.int .i64 (ordQ r s),.int .i64 0]):=by
 refine Zab Tryz.func135 rfl Tryz.ntmps135 rfl ?_
 repeat' first|refine Kz ?_|intro _
 refine Ks rfl (Zaw hr) ?_
 repeat' first|refine Kz ?_|intro _
 refine Ks rfl (Zaw hs) ?_
 repeat' first|refine Kz ?_|intro _
 rename_i b2 b3
 refine Zaj [.cl b2 [.string ⟨(tN r).toArray⟩,.string ⟨(tD r).toArray⟩] 72,.cl b3 [.string ⟨(tN s).toArray⟩,.string ⟨(tD s).toArray⟩] 72] [] (.take 0 (.take 2 (.all [(1,.all [(3,.all [(4,.take 5 (.take 6 (.done)))])])]))) ?_
 repeat' first|refine Kf ?_|intro _|constructor
 refine T1.callv rfl rfl rfl rfl rfl (Zbn hr) ?_
 rintro _ _ ⟨p1,c1,p2,c2,rfl,rfl⟩
 repeat' first|refine Kf ?_|intro _|constructor
 refine T1.callv rfl rfl rfl rfl rfl (Zbn hs) ?_
 rintro _ _ ⟨p3,c3,p4,c4,rfl,rfl⟩
 repeat' first|refine Kf ?_|intro _|constructor
 refine Ku rfl (Ze3 (v1:=.slice p1 (qud r.num.natAbs).length c1) (v2:=.slice p2 (qud (r.den:Int).natAbs).length c2) (v3:=.slice p3 (qud s.num.natAbs).length c3) (v4:=.slice p4 (qud (s.den:Int).natAbs).length c4) hr hs) ?_
 repeat' first|refine Kf ?_|intro _|constructor
 exact Kv
end Go.Proofs.YtoednejlfbfciaaGreatDoor

/- Walks: the reference on fractions: which are valid, reading, comparing. -/
import Derived.Test.YtciadfpomkdlnaaGreatDoorCd1
import Derived.Test.YtciadfpomkdlnaaGreatDoorCc3
import Derived.Test.YtciadfpomkdlnaaGreatDoorVb1
import Derived.Test.YtciadfpomkdlnaaGreatDoorCc1
set_option maxHeartbeats 1000000
namespace Go.Sx
open Go
theorem Zp2:textI 1=[49]:=by rw [Zbk,if_neg (by omega)];exact Zbf (by decide)
end Go.Sx
namespace Go.Proofs.YtciadfpomkdlnaaGreatDoor
open Go Go.Sx
variable {w0:World} {As:List Ent}
theorem Zp8 {r:Rat} (hr:Fit 600 r):CQ Tryz.prog w0 65 [.agg #[.string ⟨(tN r).toArray⟩,.string ⟨(tD r).toArray⟩]] As (.bool true):=by
 have r1:readW (tN r)=some r.num:=Za7 hr.1
 have r2:readW (tD r)=some (r.den:Int):=Za7 (by rw [Int.natAbs_natCast];exact hr.2)
 obtain ⟨l1,l2⟩:=hr.qud
 have l3:(qud (r.den:Int).natAbs).length≤600:=by rw [Int.natAbs_natCast];exact l2
 have hl0:(qud (r.den:Int).natAbs).length≠0:=by
  intro h
  have h1:valQ (qud (r.den:Int).natAbs)=0:=by rw [List.length_eq_zero_iff.1 h];rfl
  rw [Zal,Int.natAbs_natCast] at h1
  exact r.den_nz h1
 have hg:gcdI r.num (r.den:Int)=1:=by
  have:=r.reduced
  unfold Nat.Coprime at this
  unfold gcdI
  rw [Int.natAbs_natCast,this];rfl
 refine Zab Tryz.func65 rfl Tryz.ntmps65 rfl ?_
 repeat' first|refine Kz ?_|intro _
 refine Kt rfl (Zcz (s:=tN r) (Zb3 hr)) ?_
 rw [r1]
 repeat' first|refine Kz ?_|intro _
 refine Kt rfl (Zcz (s:=tD r) (Zb4 hr)) ?_
 rw [r2]
 repeat' first|refine Kz ?_|intro _
 rename_i b1
 refine Tri.mid (fun e' As'=>∃ p c q d b3 b4,e'=[(1,.pointer (some ⟨b1,0,none⟩)),(2,.bool false),(3,.pointer (some ⟨b3,0,none⟩)),(4,.pointer (some ⟨b4,0,none⟩))] ∧
  As'=.cl b3 [.bool (decide (r.num < 0)),.slice p (qud r.num.natAbs).length c] 115::.cl b4 [.bool (decide ((r.den:Int) < 0)),.slice q (qud (r.den:Int).natAbs).length d] 115 ::
   .ft (rd (cN .i64) (.slice p (qud r.num.natAbs).length c) (qud r.num.natAbs))::.ft (rd (cN .i64) (.slice q (qud (r.den:Int).natAbs).length d) (qud (r.den:Int).natAbs))::As) ?_ ?_
 ·refine Zbg [.cl b1 [.string ⟨(tN r).toArray⟩,.string ⟨(tD r).toArray⟩] 24] [] (.take 0 (.take 1 (.take 3 (.take 4 (.all [(2,.all [(5,.all [(6,.all [(7,.all [(8,.all [(9,.done)])])]),(7,.all [(6,.all [(8,.all [(9,.done)])])])]),(6,.all [(5,.all [(7,.all [(8,.all [(9,.done)])])]),(7,.all [(5,.all [(8,.all [(9,.done)])])])]),(7,.all [(5,.all [(6,.all [(8,.all [(9,.done)])])]),(6,.all [(5,.all [(8,.all [(9,.done)])])])])]),(6,.all [(2,.all [(5,.all [(7,.all [(8,.all [(9,.done)])])]),(7,.all [(5,.all [(8,.all [(9,.done)])])])]),(7,.all [(2,.all [(5,.all [(8,.all [(9,.done)])])])])]),(7,.all [(2,.all [(5,.all [(6,.all [(8,.all [(9,.done)])])]),(6,.all [(5,.all [(8,.all [(9,.done)])])])]),(6,.all [(2,.all [(5,.all [(8,.all [(9,.done)])])])])])]))))) ?_
  repeat' first|refine Kf ?_|intro _|constructor
  repeat' (first|(refine T1.callv rfl rfl rfl rfl rfl (Zg8 r1) ?_;rintro _ _ ⟨p1,c1,rfl,rfl⟩;(repeat' first|refine Kf ?_|intro _|constructor))|(refine T1.callv rfl rfl rfl rfl rfl (Zg8 r2) ?_;rintro _ _ ⟨p2,c2,rfl,rfl⟩;(repeat' first|refine Kf ?_|intro _|constructor)))
  all_goals exact Post.cut _ _ ⟨p1,c1,p2,c2,_,_,rfl,rfl⟩ Zae Zaa
 rintro _ _ ⟨p,c,q,d,b3,b4,rfl,rfl⟩
 rw [show decide ((r.den:Int) < 0)=false from decide_eq_false (by omega)]
 have hl1:((qud (r.den:Int).natAbs).length:Int)≠0:=by omega
 repeat' first|refine Kz ?_|intro _
 have hdv:=fun Bs [FtIn Bs (.slice p (qud r.num.natAbs).length c) Nat (cN .i64) (qud r.num.natAbs)] [FtIn Bs (.slice q (qud (r.den:Int).natAbs).length d) Nat (cN .i64) (qud (r.den:Int).natAbs)]=>Zfk (w0:=w0) (As:=Bs) (v:=.slice p (qud r.num.natAbs).length c) (o:=.slice q (qud (r.den:Int).natAbs).length d) (x:=r.num) (y:=(r.den:Int)) (by omega) (by omega)
 rw [show decide ((r.den:Int) < 0)=false from decide_eq_false (by omega),hg] at hdv
 refine TL.callv rfl rfl rfl rfl (hdv _) ?_
 rintro _ _ ⟨q3,d3,rfl,rfl⟩
 repeat' first|refine Kz ?_|intro _
 refine Kt rfl (Zhm (z:=1) (Nat.le_trans (Zaj (k:=1) (by decide)) (by decide))) ?_
 rw [Zp2]
 repeat' first|refine Kz ?_|intro _
 exact Kv
theorem Znr {r:Rat} (hr:Fit 600 r):CallsS Tryz.prog w0 67 [.agg #[.string ⟨(tN r).toArray⟩,.string ⟨(tD r).toArray⟩]] As (Q.RatP As r):=by
 have r1:readW (tN r)=some r.num:=Za7 hr.1
 have r2:readW (tD r)=some (r.den:Int):=Za7 (by rw [Int.natAbs_natCast];exact hr.2)
 refine Zab Tryz.func67 rfl Tryz.ntmps67 rfl ?_
 repeat' first|refine Kz ?_|intro _
 rename_i b1 b2
 refine Zbg [.cl b1 [.string ⟨(tN r).toArray⟩,.string ⟨(tD r).toArray⟩] 24] [] (.take 0 (.take 1 (.take 3 (.take 4 (.all [(2,.all [(5,.take 6 (.all [(7,.done)]))])]))))) ?_
 repeat' first|refine Kf ?_|intro _|constructor
 refine T1.callv rfl rfl rfl rfl rfl (Zg8 r1) ?_
 rintro _ _ ⟨p1,c1,rfl,rfl⟩
 repeat' first|refine Kf ?_|intro _|constructor
 refine T1.callv rfl rfl rfl rfl rfl (Zg8 r2) ?_
 rintro _ _ ⟨p2,c2,rfl,rfl⟩
 repeat' first|refine Kf ?_|intro _|constructor
 (refine Zac ?_)
 exact ⟨_,⟨p1,c1,p2,c2,rfl,rfl⟩,Zaa⟩
end Go.Proofs.YtciadfpomkdlnaaGreatDoor

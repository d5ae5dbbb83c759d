/- Walks: the reference on fractions: which are valid, reading, comparing. -/
import Derived.Test.YtngcfjfaobcpmaaGreatDoorCd1
import Derived.Test.YtngcfjfaobcpmaaGreatDoorIx1
import Derived.Test.YtngcfjfaobcpmaaGreatDoorVb1
import Derived.Test.YtngcfjfaobcpmaaGreatDoorCc1
import Derived.Test.YtngcfjfaobcpmaaGreatDoorJr1
import Derived.Test.YtngcfjfaobcpmaaGreatDoorIx9
import Derived.Test.YtngcfjfaobcpmaaGreatDoorIj1
set_option maxHeartbeats 1000000
namespace Go.Sx
open Go
theorem Zzm:textI 1=[49]:=by rw [Zck,if_neg (by omega)];exact Zct (by decide)
end Go.Sx
namespace Go.Proofs.YtngcfjfaobcpmaaGreatDoor
open Go Go.Sx
variable {w0:World} {As:List Ent}
theorem Zby {r:Rat} (hr:Fit 600 r):CQ Tryz.prog w0 72 [.agg #[.string ⟨(tN r).toArray⟩,.string ⟨(tD r).toArray⟩]] As (.bool true):=by
 have r1:readW (tN r)=some r.num:=Zbp hr.1
 have r2:readW (tD r)=some (r.den:Int):=Zbp (by rw [Int.natAbs_natCast];exact hr.2)
 obtain ⟨l1,l2⟩:=hr.qud
 have l3:(qud (r.den:Int).natAbs).length≤600:=by rw [Int.natAbs_natCast];exact l2
 have hl0:(qud (r.den:Int).natAbs).length≠0:=by
  intro h
  have h1:valQ (qud (r.den:Int).natAbs)=0:=by rw [List.length_eq_zero_iff.1 h];rfl
  rw [Zaw,Int.natAbs_natCast] at h1
  exact r.den_nz h1
 have hg:gcdI r.num (r.den:Int)=1:=by
  have:=r.reduced
  unfold Nat.Coprime at this
  unfold gcdI
  rw [Int.natAbs_natCast,this];rfl
 refine Zab Tryz.func72 rfl Tryz.ntmps72 rfl ?_
 repeat' first|refine Kz ?_|intro _
 refine Kt rfl (Znd (s:=tN r) (Zef hr)) ?_
 rw [r1]
 repeat' first|refine Kz ?_|intro _
 refine Kt rfl (Znd (s:=tD r) (Zeg hr)) ?_
 rw [r2]
 repeat' first|refine Kz ?_|intro _
 rename_i b1
 refine Tri.mid (fun e' As'=>∃ p c q d b3 b4,e'=[(1,.pointer (some ⟨b1,0,none⟩)),(2,.bool false),(3,.pointer (some ⟨b3,0,none⟩)),(4,.pointer (some ⟨b4,0,none⟩))] ∧
  As'=.cl b3 [.bool (decide (r.num < 0)),.slice p (qud r.num.natAbs).length c] 114::.cl b4 [.bool (decide ((r.den:Int) < 0)),.slice q (qud (r.den:Int).natAbs).length d] 114 ::
   .ft (rd (cN .i64) (.slice p (qud r.num.natAbs).length c) (qud r.num.natAbs))::.ft (rd (cN .i64) (.slice q (qud (r.den:Int).natAbs).length d) (qud (r.den:Int).natAbs))::As) ?_ ?_
 ·refine Zaf [.cl b1 [.string ⟨(tN r).toArray⟩,.string ⟨(tD r).toArray⟩] 52] [] (.take 0 (.take 1 (.take 3 (.take 4 (.all [(2,.all [(5,.all [(6,.all [(7,.all [(8,.all [(9,.done)])])]),(7,.all [(6,.all [(8,.all [(9,.done)])])])]),(6,.all [(5,.all [(7,.all [(8,.all [(9,.done)])])]),(7,.all [(5,.all [(8,.all [(9,.done)])])])]),(7,.all [(5,.all [(6,.all [(8,.all [(9,.done)])])]),(6,.all [(5,.all [(8,.all [(9,.done)])])])])]),(6,.all [(2,.all [(5,.all [(7,.all [(8,.all [(9,.done)])])]),(7,.all [(5,.all [(8,.all [(9,.done)])])])]),(7,.all [(2,.all [(5,.all [(8,.all [(9,.done)])])])])]),(7,.all [(2,.all [(5,.all [(6,.all [(8,.all [(9,.done)])])]),(6,.all [(5,.all [(8,.all [(9,.done)])])])]),(6,.all [(2,.all [(5,.all [(8,.all [(9,.done)])])])])])]))))) ?_
  repeat' first|refine Kf ?_|intro _|constructor
  repeat' (first|(refine T1.callv rfl rfl rfl rfl rfl (Ztm r1) ?_;rintro _ _ ⟨p1,c1,rfl,rfl⟩;(repeat' first|refine Kf ?_|intro _|constructor))|(refine T1.callv rfl rfl rfl rfl rfl (Ztm r2) ?_;rintro _ _ ⟨p2,c2,rfl,rfl⟩;(repeat' first|refine Kf ?_|intro _|constructor)))
  all_goals exact Post.cut _ _ ⟨p1,c1,p2,c2,_,_,rfl,rfl⟩ Zad Zaa
 rintro _ _ ⟨p,c,q,d,b3,b4,rfl,rfl⟩
 rw [show decide ((r.den:Int) < 0)=false from decide_eq_false (by omega)]
 have hl1:((qud (r.den:Int).natAbs).length:Int)≠0:=by omega
 repeat' first|refine Kz ?_|intro _
 have hdv:=fun Bs [FtIn Bs (.slice p (qud r.num.natAbs).length c) Nat (cN .i64) (qud r.num.natAbs)] [FtIn Bs (.slice q (qud (r.den:Int).natAbs).length d) Nat (cN .i64) (qud (r.den:Int).natAbs)]=>Zn3 (w0:=w0) (As:=Bs) (v:=.slice p (qud r.num.natAbs).length c) (o:=.slice q (qud (r.den:Int).natAbs).length d) (x:=r.num) (y:=(r.den:Int)) (by omega) (by omega)
 rw [show decide ((r.den:Int) < 0)=false from decide_eq_false (by omega),hg] at hdv
 refine TL.callv rfl rfl rfl rfl (hdv _) ?_
 rintro _ _ ⟨q3,d3,rfl,rfl⟩
 repeat' first|refine Kz ?_|intro _
 refine Kt rfl (Zxk (z:=1) (Nat.le_trans (Zbb (k:=1) (by decide)) (by decide))) ?_
 rw [Zzm]
 repeat' first|refine Kz ?_|intro _
 exact Kv
theorem Zer {r:Rat} (hr:Fit 600 r):CallsS Tryz.prog w0 74 [.agg #[.string ⟨(tN r).toArray⟩,.string ⟨(tD r).toArray⟩]] As (Q.RatP As r):=by
 have r1:readW (tN r)=some r.num:=Zbp hr.1
 have r2:readW (tD r)=some (r.den:Int):=Zbp (by rw [Int.natAbs_natCast];exact hr.2)
 refine Zab Tryz.func74 rfl Tryz.ntmps74 rfl ?_
 repeat' first|refine Kz ?_|intro _
 rename_i b1 b2
 refine Zaf [.cl b1 [.string ⟨(tN r).toArray⟩,.string ⟨(tD r).toArray⟩] 52] [] (.take 0 (.take 1 (.take 3 (.take 4 (.all [(2,.all [(5,.take 6 (.all [(7,.done)]))])]))))) ?_
 repeat' first|refine Kf ?_|intro _|constructor
 refine T1.callv rfl rfl rfl rfl rfl (Ztm r1) ?_
 rintro _ _ ⟨p1,c1,rfl,rfl⟩
 repeat' first|refine Kf ?_|intro _|constructor
 refine T1.callv rfl rfl rfl rfl rfl (Ztm r2) ?_
 rintro _ _ ⟨p2,c2,rfl,rfl⟩
 repeat' first|refine Kf ?_|intro _|constructor
 (refine Zac ?_)
 exact ⟨_,⟨p1,c1,p2,c2,rfl,rfl⟩,Zaa⟩
theorem Zpm {v1 v2 v3 v4:Value} {r s:Rat} [RdIn As v1 Nat (cN .i64) (qud r.num.natAbs)] [RdIn As v2 Nat (cN .i64) (qud (r.den:Int).natAbs)] [RdIn As v3 Nat (cN .i64) (qud s.num.natAbs)] [RdIn As v4 Nat (cN .i64) (qud (s.den:Int).natAbs)] (hr:Fit 600 r) (hs:Fit 600 s) :
  CQ Tryz.prog w0 75 [.agg #[.bool (decide (r.num < 0)),v1,.bool (decide ((r.den:Int) < 0)),v2],.agg #[.bool (decide (s.num < 0)),v3,.bool (decide ((s.den:Int) < 0)),v4]] As (.int .i64 (ordQ r s)):=by
 obtain ⟨l1,l2⟩:=hr.qud
 obtain ⟨l3,l4⟩:=hs.qud
 rw [← Int.natAbs_natCast r.den] at l2
 rw [← Int.natAbs_natCast s.den] at l4
 have k1:=Zbs r.num.natAbs (s.den:Int).natAbs
 rw [← Int.natAbs_mul] at k1
 have k2:=Zbs s.num.natAbs (r.den:Int).natAbs
 rw [← Int.natAbs_mul] at k2
 refine Zab Tryz.func75 rfl Tryz.ntmps75 rfl ?_
 repeat' first|refine Kz ?_|intro _
 rename_i b2 b3
 refine Zaf [.cl b2 [.bool (decide (r.num < 0)),v1,.bool (decide ((r.den:Int) < 0)),v2] 116,.cl b3 [.bool (decide (s.num < 0)),v3,.bool (decide ((s.den:Int) < 0)),v4] 116] [] (.take 0 (.take 1 (.take 2 (.take 3 (.take 5 (.take 6 (.take 7 (.take 8 (.all [(4,.all [(9,.all [(10,.take 11 (.done))])])]))))))))) ?_
 repeat' first|refine Kf ?_|intro _|constructor
 refine T1.callv rfl rfl rfl rfl rfl (Zdm (v:=v1) (o:=v4) (x:=r.num) (y:=(s.den:Int)) (by omega) (by omega)) ?_
 rintro _ _ ⟨p1,c1,rfl,rfl⟩
 repeat' first|refine Kf ?_|intro _|constructor
 refine T1.callv rfl rfl rfl rfl rfl (Zdm (v:=v3) (o:=v2) (x:=s.num) (y:=(r.den:Int)) (by omega) (by omega)) ?_
 rintro _ _ ⟨p2,c2,rfl,rfl⟩
 repeat' first|refine Kf ?_|intro _|constructor
 refine Ku rfl (Znr (v:=.slice p1 (qud (r.num * (s.den:Int)).natAbs).length c1) (o:=.slice p2 (qud (s.num * (r.den:Int)).natAbs).length c2) (x:=r.num * (s.den:Int)) (y:=s.num * (r.den:Int)) (by omega) (by omega)) ?_
 repeat' first|refine Kf ?_|intro _|constructor
 exact Kv
theorem Zio {r s:Rat} (hr:Fit 600 r) (hs:Fit 600 s):CQ Tryz.prog w0 28 [.agg #[.string ⟨(tN r).toArray⟩,.string ⟨(tD r).toArray⟩],.agg #[.string ⟨(tN s).toArray⟩,.string ⟨(tD s).toArray⟩]] As (.tuple #[.int .i64 (ordQ r s),.int .i64 0]):=by
 refine Zab Tryz.func28 rfl Tryz.ntmps28 rfl ?_
 repeat' first|refine Kz ?_|intro _
 refine Ks rfl (Zby hr) ?_
 repeat' first|refine Kz ?_|intro _
 refine Ks rfl (Zby hs) ?_
 repeat' first|refine Kz ?_|intro _
 rename_i b2 b3
 refine Zaf [.cl b2 [.string ⟨(tN r).toArray⟩,.string ⟨(tD r).toArray⟩] 52,.cl b3 [.string ⟨(tN s).toArray⟩,.string ⟨(tD s).toArray⟩] 52] [] (.take 0 (.take 2 (.all [(1,.all [(3,.all [(4,.take 5 (.take 6 (.done)))])])]))) ?_
 repeat' first|refine Kf ?_|intro _|constructor
 refine T1.callv rfl rfl rfl rfl rfl (Zer hr) ?_
 rintro _ _ ⟨p1,c1,p2,c2,rfl,rfl⟩
 repeat' first|refine Kf ?_|intro _|constructor
 refine T1.callv rfl rfl rfl rfl rfl (Zer hs) ?_
 rintro _ _ ⟨p3,c3,p4,c4,rfl,rfl⟩
 repeat' first|refine Kf ?_|intro _|constructor
 refine Ku rfl (Zpm (v1:=.slice p1 (qud r.num.natAbs).length c1) (v2:=.slice p2 (qud (r.den:Int).natAbs).length c2) (v3:=.slice p3 (qud s.num.natAbs).length c3) (v4:=.slice p4 (qud (s.den:Int).natAbs).length c4) hr hs) ?_
 repeat' first|refine Kf ?_|intro _|constructor
 exact Kv
end Go.Proofs.YtngcfjfaobcpmaaGreatDoor
namespace Go.Sx
open Go
def thrM (a b c n v:V3):Option Rat :=
 if (det3 v a b < 0∨det3 v b c < 0∨det3 v c a < 0)∧(0 < det3 v a b∨0 < det3 v b c∨0 < det3 v c a) then none
 else if 0≤qI (n.dot a) (n.dot v) then some (qI (n.dot a) (n.dot v)) else none
def alongM (s:Spn) (k:Nat) (n a b c v:V3):Option Rat:=((cut3R s k n a b c v).bind fun t=>if t.ne then some t else none).map (·.low)
theorem Zn5 {s:Spn} {w:Int} (h:¬ 0 < w):cutR s (-w) 0=some s:=by unfold cutR;rw [if_pos rfl,if_pos (by omega)]
theorem Zn6 {s:Spn} {w:Int} (h:0 < w):cutR s (-w) 0=none:=by unfold cutR;rw [if_pos rfl,if_neg (by omega)]
theorem Zrz {s:Spn} {w v:Int} (h:0 < v) (hl:s.low < qI w v):cutR s (-w) v=some { s with low:=qI w v }:=by
 unfold cutR cutV;rw [if_neg (by omega),Int.neg_neg,if_pos ⟨h,hl⟩]
theorem Zn7 {s:Spn} {w v:Int} (h:0 < v) (hl:¬ s.low < qI w v):cutR s (-w) v=some s:=by
 unfold cutR cutV;rw [if_neg (by omega),Int.neg_neg,if_neg (fun k=>hl k.2),if_neg (by omega)]
theorem Zge {s:Spn} {w v:Int} (h:v < 0) (hl:s.opn=true∨qI w v < s.high):cutR s (-w) v=some { s with high:=qI w v,opn:=false }:=by
 unfold cutR cutV;rw [if_neg (by omega),Int.neg_neg,if_neg (by omega),if_pos ⟨h,hl⟩]
theorem Zk9 {s:Spn} {w v:Int} (h:v < 0) (hl:¬ (s.opn=true∨qI w v < s.high)):cutR s (-w) v=some s:=by
 unfold cutR cutV;rw [if_neg (by omega),Int.neg_neg,if_neg (by omega),if_neg (fun k=>hl k.2)]
end Go.Sx
namespace Go.Proofs.YtngcfjfaobcpmaaGreatDoor
open Go Go.Sx
variable {w0:World} {As:List Ent}
theorem Zhe {r:Rat} (hr:Fit 600 r):CQ Tryz.prog w0 70 [.agg #[.string ⟨(tN r).toArray⟩,.string ⟨(tD r).toArray⟩]] As (.tuple #[.int .i64 (ordQ r 0),.int .i64 0]):=by
 have hz:qI 0 1=0:=by decide +kernel
 refine Zab Tryz.func70 rfl Tryz.ntmps70 rfl ?_
 repeat' first|refine Kz ?_|intro _
 refine Ks rfl (Zby hr) ?_
 repeat' first|refine Kz ?_|intro _
 refine TL.callv rfl rfl rfl rfl (Zer hr) ?_
 rintro _ _ ⟨p1,c1,p2,c2,rfl,rfl⟩
 repeat' first|refine Kz ?_|intro _
 refine TL.callv rfl rfl rfl rfl (Zs2 (x:=0) (y:=1) (by decide) (by decide) (by decide)) ?_
 rw [hz]
 rintro _ _ ⟨p3,c3,p4,c4,rfl,rfl⟩
 repeat' first|refine Kz ?_|intro _
 refine Ks rfl (Zpm (v1:=.slice p1 (qud r.num.natAbs).length c1) (v2:=.slice p2 (qud (r.den:Int).natAbs).length c2) (v3:=.slice p3 (qud (0:Rat).num.natAbs).length c3) (v4:=.slice p4 (qud ((0:Rat).den:Int).natAbs).length c4) (s:=0) hr (fit0.mono (by decide))) ?_
 repeat' first|refine Kz ?_|intro _
 exact Kv
theorem Zdr {r s:Rat} (hr:Fit 19 r) (hs:Fit 19 s):CQ Tryz.prog w0 90 [.agg #[.string ⟨(tN r).toArray⟩,.string ⟨(tD r).toArray⟩],.agg #[.string ⟨(tN s).toArray⟩,.string ⟨(tD s).toArray⟩]] As (.bool (decide (r < s))):=by
 have ho:=@Zhn r s
 refine Zab Tryz.func90 rfl Tryz.ntmps90 rfl ?_
 repeat' first|refine Kz ?_|intro _
 refine Ks rfl (Zio (hr.mono (by decide)) (hs.mono (by decide))) ?_
 rw [show decide (r < s)=decide (ordQ r s < 0) from by rw [decide_eq_decide];exact ho.symm]
 generalize ordQ r s=q
 repeat' first|refine Kz ?_|intro _
 exact Kv
set_option maxHeartbeats 4000000 in
theorem Zvb {a b c n v:V3} (ha:a.in 400000) (hb:b.in 400000) (hc:c.in 400000) (hn:n.in 320000000000) (hv:v.in 400000) (h0:n.dot v≠0) :
  CallsS Tryz.prog w0 143 [a.val,b.val,c.val,n.val,v.val] As (MetR As (thrM a b c n v)):=by
 have g1:=Zhv (l:=400000) (m:=400000) (n:=400000) (by decide) (by decide) (by decide) hv ha hb
 have g2:=Zhv (l:=400000) (m:=400000) (n:=400000) (by decide) (by decide) (by decide) hv hb hc
 have g3:=Zhv (l:=400000) (m:=400000) (n:=400000) (by decide) (by decide) (by decide) hv hc ha
 have b1:-9223372036854775807≤n.dot a∧n.dot a≤9223372036854775807:=by have:=Zjn (by decide) (by decide) hn ha;simp only [V3.dot];omega
 have b2:-9223372036854775807≤n.dot v∧n.dot v≤9223372036854775807:=by have:=Zjn (by decide) (by decide) hn hv;simp only [V3.dot];omega
 have k1:=fun Bs=>Zhi (w0:=w0) (As:=Bs) hv ha hb (by decide) (by decide) (by decide) (by decide) (by decide)
 have k2:=fun Bs=>Zhi (w0:=w0) (As:=Bs) hv hb hc (by decide) (by decide) (by decide) (by decide) (by decide)
 have k3:=fun Bs=>Zhi (w0:=w0) (As:=Bs) hv hc ha (by decide) (by decide) (by decide) (by decide) (by decide)
 have d1:=fun Bs=>Zn2 (w0:=w0) (As:=Bs) hn ha (by decide) (by decide) (by decide)
 have d2:=fun Bs=>Zn2 (w0:=w0) (As:=Bs) hn hv (by decide) (by decide) (by decide)
 refine Zab Tryz.func143 rfl Tryz.ntmps143 rfl ?_
 show Tri _ _ _ _ (env0 0 [.agg #[.int .i64 a.x,.int .i64 a.y,.int .i64 a.z],.agg #[.int .i64 b.x,.int .i64 b.y,.int .i64 b.z],.agg #[.int .i64 c.x,.int .i64 c.y,.int .i64 c.z],.agg #[.int .i64 n.x,.int .i64 n.y,.int .i64 n.z],.agg #[.int .i64 v.x,.int .i64 v.y,.int .i64 v.z]]) _ _
 unfold thrM
 repeat' first|refine Kz ?_|intro _
 rename_i e5 e6 e7 e8 e9 e10
 generalize det3 v a b=x at *
 generalize det3 v b c=y at *
 generalize det3 v c a=z at *
 generalize hda:n.dot a=da at *
 generalize hdv:n.dot v=dv at *
 refine Tri.mid (fun e' As'=>e'=[(5,.pointer (some ⟨e5,0,none⟩)),(8,.pointer (some ⟨e8,0,none⟩)),(9,.pointer (some ⟨e9,0,none⟩)),(10,.pointer (some ⟨e10,0,none⟩)),(12,.int .i64 x),(13,.int .i64 y),(14,.int .i64 z)] ∧
  As'=.cl e5 [.int .i64 a.x,.int .i64 a.y,.int .i64 a.z] 33::.cl e8 [.int .i64 n.x,.int .i64 n.y,.int .i64 n.z] 33::.cl e9 [.int .i64 v.x,.int .i64 v.y,.int .i64 v.z] 33::.cl e10 [.string ⟨#[]⟩,.string ⟨#[]⟩] 52::As) ?_ ?_
 ·refine Zaf [.cl e5 [.int .i64 a.x,.int .i64 a.y,.int .i64 a.z] 33,.cl e6 [.int .i64 b.x,.int .i64 b.y,.int .i64 b.z] 33,.cl e7 [.int .i64 c.x,.int .i64 c.y,.int .i64 c.z] 33,.cl e9 [.int .i64 v.x,.int .i64 v.y,.int .i64 v.z] 33] [] (.take 0 (.take 1 (.take 2 (.take 4 (.take 5 (.take 6 (.take 8 (.take 9 (.take 10 (.all [(3,.all [(7,.all [(11,.take 12 (.take 13 (.take 14 (.done))))])])])))))))))) ?_
  repeat' first|refine Kf ?_|intro _|constructor
  refine Ku rfl (k1 _) ?_
  repeat' first|refine Kf ?_|intro _|constructor
  refine Ku rfl (k2 _) ?_
  repeat' first|refine Kf ?_|intro _|constructor
  refine Ku rfl (k3 _) ?_
  repeat' first|refine Kf ?_|intro _|constructor
  exact Post.cut _ _ ⟨rfl,rfl⟩ Zad Zaa
 rintro _ _ ⟨rfl,rfl⟩
 clear k1 k2 k3
 refine Zes ?_
 refine Tri.cut (fun e' As'=>¬ ((x < 0∨y < 0∨z < 0)∧(0 < x∨0 < y∨0 < z))∧e'=[(5,.pointer (some ⟨e5,0,none⟩)),(8,.pointer (some ⟨e8,0,none⟩)),(9,.pointer (some ⟨e9,0,none⟩)),(10,.pointer (some ⟨e10,0,none⟩))] ∧
  As'=.cl e5 [.int .i64 a.x,.int .i64 a.y,.int .i64 a.z] 33::.cl e8 [.int .i64 n.x,.int .i64 n.y,.int .i64 n.z] 33::.cl e9 [.int .i64 v.x,.int .i64 v.y,.int .i64 v.z] 33::.cl e10 [.string ⟨#[]⟩,.string ⟨#[]⟩] 52::As) ?_ ?_
 ·clear d1 d2 h0 b1 b2
  rcases Int.lt_trichotomy x 0 with i1|i1|i1
  all_goals rcases Int.lt_trichotomy y 0 with i2|i2|i2
  all_goals rcases Int.lt_trichotomy z 0 with i3|i3|i3
  all_goals first
   | (rw [if_pos (by omega)]
      repeat' first|refine Kf ?_|intro _|constructor
      (refine Zac ?_)
      exact ⟨_,MetR.none (x:=[]) (y:=[]),Zaa⟩)
   | ((repeat' first|refine Kf ?_|intro _|constructor)
      exact Post.cut _ _ ⟨by omega,rfl,rfl⟩ Zad Zaa)
 rintro _ _ ⟨hm,rfl,rfl⟩
 rw [if_neg hm]
 clear hm
 have ho:=fun Bs=>Za0 (w0:=w0) (As:=Bs) (n:=da) (d:=dv) (by omega) (by omega) h0
 have hf:Fit 19 (qI da dv):=Zet (by omega) (by omega) h0
 clear g1 g2 g3
 generalize qI da dv=t at *
 refine Tri.cut (fun e' As'=>∃ e15,e'=[(10,.pointer (some ⟨e10,0,none⟩)),(15,.pointer (some ⟨e15,0,none⟩))]∧As'=.cl e15 [.string ⟨(tN t).toArray⟩,.string ⟨(tD t).toArray⟩] 52::.cl e10 [.string ⟨#[]⟩,.string ⟨#[]⟩] 52::As) ?_ ?_
 ·refine Zaf [.cl e5 [.int .i64 a.x,.int .i64 a.y,.int .i64 a.z] 33,.cl e8 [.int .i64 n.x,.int .i64 n.y,.int .i64 n.z] 33,.cl e9 [.int .i64 v.x,.int .i64 v.y,.int .i64 v.z] 33] [] (.take 0 (.take 1 (.take 3 (.take 4 (.all [(2,.all [(5,.all [(6,.take 7 (.take 8 (.take 9 (.all [(10,.all [(11,.take 12 (.done))])])))),(10,.all [(6,.take 7 (.take 8 (.take 9 (.all [(11,.take 12 (.done))]))))])]),(10,.all [(5,.all [(6,.take 7 (.take 8 (.take 9 (.all [(11,.take 12 (.done))]))))])])]),(10,.all [(2,.all [(5,.all [(6,.take 7 (.take 8 (.take 9 (.all [(11,.take 12 (.done))]))))])])])]))))) ?_
  repeat' first|refine Kf ?_|intro _|constructor
  repeat' (first|(refine T1.callv rfl rfl rfl rfl rfl (d1 _) ?_;rintro _ _ ⟨rfl,rfl⟩;(repeat' first|refine Kf ?_|intro _|constructor))|(refine T1.callv rfl rfl rfl rfl rfl (d2 _) ?_;rintro _ _ ⟨rfl,rfl⟩;(repeat' first|refine Kf ?_|intro _|constructor))|(refine T1.callv rfl rfl rfl rfl rfl (ho _) ?_;rintro _ _ ⟨rfl,rfl⟩;(repeat' first|refine Kf ?_|intro _|constructor)))
  all_goals exact Post.cut _ _ ⟨_,rfl,rfl⟩ Zad Zaa
 rintro _ _ ⟨e15,rfl,rfl⟩
 have hor:=@Zhn t 0
 repeat' first|refine Kz ?_|intro _
 refine Ks rfl (Zhe (hf.mono (by decide))) ?_
 generalize ordQ t 0=q at *
 by_cases h:0≤t
 ·have hq:0≤q:=by
   have:¬ q < 0:=fun k=>Rat.not_lt.2 h (hor.1 k)
   omega
  rw [if_pos h]
  repeat' first|refine Kz ?_|intro _
  (refine Zac ?_)
  refine ⟨As,?_,Zaa⟩
  rw [decide_eq_true hq]
  exact MetR.some (t:=t)
 ·have hq:¬ 0≤q:=by
   have:=hor.2 (Rat.not_le.1 h)
   omega
  rw [if_neg h]
  repeat' first|refine Kz ?_|intro _
  (refine Zac ?_)
  refine ⟨As,?_,Zaa⟩
  rw [decide_eq_false hq]
  exact MetR.none (x:=tN t) (y:=tD t)
theorem Zjo (k:Nat) (a b:V3):((b.sub a).cross a).proj k=-(a.cross b).proj k:=by
 unfold V3.proj
 split
 ·simp only [V3.cross,V3.sub];grind
 ·split<;>(simp only [V3.cross,V3.sub];grind)
theorem Zk3 {v:V3} {m:Int} (h:v.in m) (k:Nat):-m≤v.proj k∧v.proj k≤m:=by
 obtain ⟨h1,h2,h3,h4,h5,h6⟩:=h
 unfold V3.proj
 split
 ·exact ⟨h1,h2⟩
 ·split
  ·exact ⟨h3,h4⟩
  ·exact ⟨h5,h6⟩
theorem Zkx (v:V3) {k:Nat} (h:k < 3):([.int .i64 v.x,.int .i64 v.y,.int .i64 v.z]:List Value)[k]?=some (.int .i64 (v.proj k)):=by
 have:k=0∨k=1∨k=2:=by omega
 rcases this with rfl|rfl|rfl<;>rfl
end Go.Proofs.YtngcfjfaobcpmaaGreatDoor

/- Walks: the reference of the chapter on intents: fractions, the axis, anchors. -/
import Derived.Test.YtngcfjfaobcpmaaGreatDoorNw1
import Derived.Test.YtngcfjfaobcpmaaGreatDoorCr1
import Derived.Test.YtngcfjfaobcpmaaGreatDoorJr3
import Derived.Test.YtngcfjfaobcpmaaGreatDoorIj1
import Derived.Test.YtngcfjfaobcpmaaGreatDoorVb1
import Derived.Test.YtngcfjfaobcpmaaGreatDoorNp1
import Derived.Test.YtngcfjfaobcpmaaGreatDoorNw4
set_option maxHeartbeats 1000000
namespace Go.Sx
open Go
theorem Z3x {z:Int} (h:-9223372036854775808≤z∧z≤9223372036854775807):intW (textI z)=(z,0):=by
 unfold intW
 rw [Zbp (Nat.le_trans (Zdk (k:=19) (by omega) (by omega)) (by decide))]
 simp only
 rw [if_pos h]
end Go.Sx
namespace Go.Proofs.YtngcfjfaobcpmaaGreatDoor
open Go Go.Sx
variable {w0:World} {As:List Ent} {pv fv:Value} {pts fcs:List V3}
theorem Z2m {n d:Int} (hn:-9223372036854775807≤n∧n≤9223372036854775807) (hd:-9223372036854775807≤d∧d≤9223372036854775807) (h0:d≠0) :
  CQ Tryz.prog w0 52 [.int .i64 n,.int .i64 d] As (frV (qI n d)):=by
 refine Zab Tryz.func52 rfl Tryz.ntmps52 rfl ?_
 repeat' first|refine Kz ?_|intro _
 refine Ks rfl (Za0 hn hd h0) ?_
 repeat' first|refine Kz ?_|intro _
 exact Kv
theorem Zdp {n:Int} (hn:-9223372036854775807≤n∧n≤9223372036854775807):CQ Tryz.prog w0 52 [.int .i64 n,.int .i64 1] As (frV (n:Rat)):=by
 have h:=Z2m (w0:=w0) (As:=As) (n:=n) (d:=1) hn (by decide) (by decide)
 rw [Zhk] at h
 exact h
theorem Zq0 {n:Int} {t:Rat} (hn:-400000≤n∧n≤400000) (hf:Fit 19 t) (hz:-9223372036854775808≤((n:Rat) * t).floor∧((n:Rat) * t).floor≤9223372036854775807) :
  CQ Tryz.prog w0 38 [.int .i64 n,frV t] As (.int .i64 ((n:Rat) * t).floor):=by
 have hm:=(Zba hn).mul hf
 refine Zab Tryz.func38 rfl Tryz.ntmps38 rfl ?_
 show Tri _ _ _ _ (env0 0 [.int .i64 n,.agg #[.string ⟨(tN t).toArray⟩,.string ⟨(tD t).toArray⟩]]) _ _
 repeat' first|refine Kz ?_|intro _
 rename_i b3
 refine Tri.mid (fun e' As'=>∃ b5,e'=[(5,.pointer (some ⟨b5,0,none⟩))]∧As'=.cl b5 [.string ⟨(tN ((n:Rat) * t)).toArray⟩,.string ⟨(tD ((n:Rat) * t)).toArray⟩] 52::As) ?_ ?_
 ·refine Zaf [.cl b3 [.string ⟨(tN (t)).toArray⟩,.string ⟨(tD (t)).toArray⟩] 52] [] (.take 0 (.take 2 (.all [(1,.all [(3,.take 4 (.take 5 (.take 6 (.all [(7,.all [(8,.take 9 (.done))])])))),(7,.all [(3,.take 4 (.take 5 (.take 6 (.all [(8,.take 9 (.done))]))))])]),(7,.all [(1,.all [(3,.take 4 (.take 5 (.take 6 (.all [(8,.take 9 (.done))]))))])])]))) ?_
  repeat' first|refine Kf ?_|intro _|constructor
  repeat' (first|(refine T1.callv rfl rfl rfl rfl rfl (Zdp (n:=n) (by omega)) ?_;rintro _ _ ⟨rfl,rfl⟩;(repeat' first|refine Kf ?_|intro _|constructor))|(refine T1.callv rfl rfl rfl rfl rfl (Zig ((Zba hn).mono (by decide)) (hf.mono (by decide)) (hm.mono (by decide))) ?_;rintro _ _ ⟨rfl,rfl⟩;(repeat' first|refine Kf ?_|intro _|constructor)))
  all_goals exact Post.cut _ _ ⟨_,rfl,rfl⟩ Zad Zaa
 rintro _ _ ⟨b5,rfl,rfl⟩
 repeat' first|refine Kz ?_|intro _
 refine Ks rfl (Z0k (hm.mono (by decide))) ?_
 repeat' first|refine Kz ?_|intro _
 refine TL.callv rfl rfl rfl rfl (Ybt (s:=textI ((n:Rat) * t).floor) ?_) ?_
 ·have:=Zjw ((n:Rat) * t).floor
  have h2:=Q.Zdj hz
  split at this<;>omega
 rw [Z3x hz]
 rintro _ _ ⟨rfl,rfl⟩
 repeat' first|refine Kz ?_|intro _
 exact Kv
theorem Zjd {l:Int}:CQ Tryz.prog w0 35 [.int .i64 l] As ((⟨l,0,0⟩:V3).val):=by
 refine Zab Tryz.func35 rfl Tryz.ntmps35 rfl ?_
 repeat' first|refine Kz ?_|intro _
 exact Kv
theorem Zjz {p:V3} [RdIn As fv V3 cV3 fcs] [RdIn As pv V3 cV3 pts]:CQ Tryz.prog w0 42 [.agg #[pv,fv],p.val] As (.int .i64 (if (flawM pts fcs).1≠0 then 350 else if isFar p then 2 else 0)):=by
 refine Zab Tryz.func42 rfl Tryz.ntmps42 rfl ?_
 show Tri _ _ _ _ (env0 0 [.agg #[pv,fv],.agg #[.int .i64 p.x,.int .i64 p.y,.int .i64 p.z]]) _ _
 repeat' first|refine Kz ?_|intro _
 refine Kt rfl (Zhy (pts:=pts) (fcs:=fcs)) ?_
 by_cases hfl:(flawM pts fcs).1=0
 ·rw [if_neg (fun h=>h hfl),show chkM pts fcs=0 from if_pos hfl]
  repeat' first|refine Kz ?_|intro _
  refine Ks rfl (Znc (p:=p)) ?_
  cases isFar p with
  | true =>
   repeat' first|refine Kz ?_|intro _
   exact Kv
  | false =>
   repeat' first|refine Kz ?_|intro _
   exact Kv
 ·rw [if_pos hfl,show chkM pts fcs=350 from if_neg hfl]
  repeat' first|refine Kz ?_|intro _
  exact Kv
end Go.Proofs.YtngcfjfaobcpmaaGreatDoor
namespace Go.Proofs.YtngcfjfaobcpmaaGreatDoor
open Go Go.Sx
variable {w0:World} {As:List Ent} {pv fv:Value} {pts fcs:List V3}
set_option maxRecDepth 100000 in
set_option maxHeartbeats 4000000 in
theorem Z9j {c p:V3} {s:Rat} (hc:isFar c=false) (hp:isFar p=false) (hs:Fit 200 s):CQ Tryz.prog w0 53 [c.val,p.val,frV s] As (triR (.inr (atQ c p s))):=by
 have bc:=Zb2 hc
 have bp:=Zb2 hp
 obtain ⟨a1,a2,a3,a4,a5,a6⟩:=bc
 obtain ⟨b1,b2,b3,b4,b5,b6⟩:=bp
 have k:=fun (c p:Int) (h1:-200000≤c∧c≤200000) (h2:-200000≤p∧p≤200000)=>Zwg (c:=c) (p:=p) (s:=s) (k:=200) h1 h2 hs
 refine Zab Tryz.func53 rfl Tryz.ntmps53 rfl ?_
 show Tri _ _ _ _ (env0 0 [.agg #[.int .i64 c.x,.int .i64 c.y,.int .i64 c.z],.agg #[.int .i64 p.x,.int .i64 p.y,.int .i64 p.z],.agg #[.string ⟨(tN s).toArray⟩,.string ⟨(tD s).toArray⟩]]) _ _
 repeat' first|refine Kz ?_|intro _
 rename_i b3 b4 b5 b6 b8
 refine Zah 4 ?_
 repeat' first|refine Kz ?_|intro _
 refine Tri.mid (fun e' As'=>∃ b10,e'=[(3,.pointer (some ⟨b3,0,none⟩)),(4,.pointer (some ⟨b4,0,none⟩)),(5,.pointer (some ⟨b5,0,none⟩)),(6,.pointer (some ⟨b6,0,none⟩)),(8,.pointer (some ⟨b8,0,none⟩)),(9,.int .i64 0),(10,.pointer (some ⟨b10,0,none⟩)),(11,.int .i64 0)]∧As'=.cl b10 [.string ⟨(tN (s * ((p.x - c.x:Int):Rat))).toArray⟩,.string ⟨(tD (s * ((p.x - c.x:Int):Rat))).toArray⟩] 52::.cl b3 [.int .i64 c.x,.int .i64 c.y,.int .i64 c.z] 33::.cl b4 [.int .i64 p.x,.int .i64 p.y,.int .i64 p.z] 33::.cl b5 [.string ⟨(tN (s)).toArray⟩,.string ⟨(tD (s)).toArray⟩] 52::.cl b6 [.string ⟨#[]⟩,.string ⟨#[]⟩,.string ⟨#[]⟩,.string ⟨#[]⟩,.string ⟨#[]⟩,.string ⟨#[]⟩] 54::.cl b8 [.string ⟨#[]⟩,.string ⟨#[]⟩,.string ⟨#[]⟩,.string ⟨#[]⟩,.string ⟨#[]⟩,.string ⟨#[]⟩] 54::As) ?_ ?_
 ·refine Zaf [.cl b3 [.int .i64 c.x,.int .i64 c.y,.int .i64 c.z] 33,.cl b4 [.int .i64 p.x,.int .i64 p.y,.int .i64 p.z] 33,.cl b5 [.string ⟨(tN (s)).toArray⟩,.string ⟨(tD (s)).toArray⟩] 52] [] (.take 0 (.take 1 (.take 2 (.take 3 (.take 4 (.take 5 (.take 6 (.take 7 (.all [(8,.all [(9,.take 10 (.take 11 (.take 12 (.all [(13,.all [(14,.take 15 (.done))])])))),(13,.all [(9,.take 10 (.take 11 (.take 12 (.all [(14,.take 15 (.done))]))))])]),(13,.all [(8,.all [(9,.take 10 (.take 11 (.take 12 (.all [(14,.take 15 (.done))]))))])])]))))))))) ?_
  repeat' first|refine Kf ?_|intro _|constructor
  repeat' (first|(refine T1.callv rfl rfl rfl rfl rfl (Zdp (n:=p.x - c.x) (by omega)) ?_;rintro _ _ ⟨rfl,rfl⟩;(repeat' first|refine Kf ?_|intro _|constructor))|(refine T1.callv rfl rfl rfl rfl rfl (Zig (hs.mono (by decide)) ((Zba (z:=p.x - c.x) (by omega)).mono (by decide)) ((k c.x p.x (by omega) (by omega)).1.mono (by decide))) ?_;rintro _ _ ⟨rfl,rfl⟩;(repeat' first|refine Kf ?_|intro _|constructor)))
  all_goals exact Post.cut _ _ ⟨_,rfl,rfl⟩ Zad Zaa
 rintro _ _ ⟨b10,rfl,rfl⟩
 repeat' first|refine Kz ?_|intro _
 refine Tri.mid (fun e' As'=>∃ b12,e'=[(3,.pointer (some ⟨b3,0,none⟩)),(4,.pointer (some ⟨b4,0,none⟩)),(5,.pointer (some ⟨b5,0,none⟩)),(6,.pointer (some ⟨b6,0,none⟩)),(8,.pointer (some ⟨b8,0,none⟩)),(9,.int .i64 0),(12,.pointer (some ⟨b12,0,none⟩)),(13,.int .i64 0)]∧As'=.cl b12 [.string ⟨(tN ((c.x:Rat)+s * ((p.x - c.x:Int):Rat))).toArray⟩,.string ⟨(tD ((c.x:Rat)+s * ((p.x - c.x:Int):Rat))).toArray⟩] 52::.cl b3 [.int .i64 c.x,.int .i64 c.y,.int .i64 c.z] 33::.cl b4 [.int .i64 p.x,.int .i64 p.y,.int .i64 p.z] 33::.cl b5 [.string ⟨(tN (s)).toArray⟩,.string ⟨(tD (s)).toArray⟩] 52::.cl b6 [.string ⟨#[]⟩,.string ⟨#[]⟩,.string ⟨#[]⟩,.string ⟨#[]⟩,.string ⟨#[]⟩,.string ⟨#[]⟩] 54::.cl b8 [.string ⟨#[]⟩,.string ⟨#[]⟩,.string ⟨#[]⟩,.string ⟨#[]⟩,.string ⟨#[]⟩,.string ⟨#[]⟩] 54::As) ?_ ?_
 ·refine Zaf [.cl b3 [.int .i64 c.x,.int .i64 c.y,.int .i64 c.z] 33,.cl b10 [.string ⟨(tN (s * ((p.x - c.x:Int):Rat))).toArray⟩,.string ⟨(tD (s * ((p.x - c.x:Int):Rat))).toArray⟩] 52] [] (.take 0 (.take 1 (.take 2 (.take 4 (.all [(3,.all [(5,.take 6 (.take 7 (.take 8 (.all [(9,.all [(10,.take 11 (.done))])])))),(9,.all [(5,.take 6 (.take 7 (.take 8 (.all [(10,.take 11 (.done))]))))])]),(9,.all [(3,.all [(5,.take 6 (.take 7 (.take 8 (.all [(10,.take 11 (.done))]))))])])]))))) ?_
  repeat' first|refine Kf ?_|intro _|constructor
  repeat' (first|(refine T1.callv rfl rfl rfl rfl rfl (Zdp (n:=c.x) (by omega)) ?_;rintro _ _ ⟨rfl,rfl⟩;(repeat' first|refine Kf ?_|intro _|constructor))|(refine T1.callv rfl rfl rfl rfl rfl (Zms ((Zba (z:=c.x) (by omega)).mono (by decide)) ((k c.x p.x (by omega) (by omega)).1.mono (by decide)) ((k c.x p.x (by omega) (by omega)).2.mono (by decide))) ?_;rintro _ _ ⟨rfl,rfl⟩;(repeat' first|refine Kf ?_|intro _|constructor)))
  all_goals exact Post.cut _ _ ⟨_,rfl,rfl⟩ Zad Zaa
 rintro _ _ ⟨b12,rfl,rfl⟩
 repeat' first|refine Kz ?_|intro _
 show Tri _ _ _ _ _ (.cl b8 [.string ⟨(tN ((c.x:Rat)+s * ((p.x - c.x:Int):Rat))).toArray⟩,.string ⟨(tD ((c.x:Rat)+s * ((p.x - c.x:Int):Rat))).toArray⟩,.string ⟨#[]⟩,.string ⟨#[]⟩,.string ⟨#[]⟩,.string ⟨#[]⟩] _::_) _
 repeat' first|refine Kz ?_|intro _
 refine Tri.mid (fun e' As'=>∃ b10,e'=[(3,.pointer (some ⟨b3,0,none⟩)),(4,.pointer (some ⟨b4,0,none⟩)),(5,.pointer (some ⟨b5,0,none⟩)),(6,.pointer (some ⟨b6,0,none⟩)),(8,.pointer (some ⟨b8,0,none⟩)),(9,.int .i64 1),(10,.pointer (some ⟨b10,0,none⟩)),(11,.int .i64 0)]∧As'=.cl b10 [.string ⟨(tN (s * ((p.y - c.y:Int):Rat))).toArray⟩,.string ⟨(tD (s * ((p.y - c.y:Int):Rat))).toArray⟩] 52::.cl b3 [.int .i64 c.x,.int .i64 c.y,.int .i64 c.z] 33::.cl b4 [.int .i64 p.x,.int .i64 p.y,.int .i64 p.z] 33::.cl b5 [.string ⟨(tN (s)).toArray⟩,.string ⟨(tD (s)).toArray⟩] 52::.cl b6 [.string ⟨#[]⟩,.string ⟨#[]⟩,.string ⟨#[]⟩,.string ⟨#[]⟩,.string ⟨#[]⟩,.string ⟨#[]⟩] 54::.cl b8 [.string ⟨(tN ((c.x:Rat)+s * ((p.x - c.x:Int):Rat))).toArray⟩,.string ⟨(tD ((c.x:Rat)+s * ((p.x - c.x:Int):Rat))).toArray⟩,.string ⟨#[]⟩,.string ⟨#[]⟩,.string ⟨#[]⟩,.string ⟨#[]⟩] 54::As) ?_ ?_
 ·refine Zaf [.cl b3 [.int .i64 c.x,.int .i64 c.y,.int .i64 c.z] 33,.cl b4 [.int .i64 p.x,.int .i64 p.y,.int .i64 p.z] 33,.cl b5 [.string ⟨(tN (s)).toArray⟩,.string ⟨(tD (s)).toArray⟩] 52] [] (.take 0 (.take 1 (.take 2 (.take 3 (.take 4 (.take 5 (.take 6 (.take 7 (.all [(8,.all [(9,.take 10 (.take 11 (.take 12 (.all [(13,.all [(14,.take 15 (.done))])])))),(13,.all [(9,.take 10 (.take 11 (.take 12 (.all [(14,.take 15 (.done))]))))])]),(13,.all [(8,.all [(9,.take 10 (.take 11 (.take 12 (.all [(14,.take 15 (.done))]))))])])]))))))))) ?_
  repeat' first|refine Kf ?_|intro _|constructor
  repeat' (first|(refine T1.callv rfl rfl rfl rfl rfl (Zdp (n:=p.y - c.y) (by omega)) ?_;rintro _ _ ⟨rfl,rfl⟩;(repeat' first|refine Kf ?_|intro _|constructor))|(refine T1.callv rfl rfl rfl rfl rfl (Zig (hs.mono (by decide)) ((Zba (z:=p.y - c.y) (by omega)).mono (by decide)) ((k c.y p.y (by omega) (by omega)).1.mono (by decide))) ?_;rintro _ _ ⟨rfl,rfl⟩;(repeat' first|refine Kf ?_|intro _|constructor)))
  all_goals exact Post.cut _ _ ⟨_,rfl,rfl⟩ Zad Zaa
 rintro _ _ ⟨b10,rfl,rfl⟩
 repeat' first|refine Kz ?_|intro _
 refine Tri.mid (fun e' As'=>∃ b12,e'=[(3,.pointer (some ⟨b3,0,none⟩)),(4,.pointer (some ⟨b4,0,none⟩)),(5,.pointer (some ⟨b5,0,none⟩)),(6,.pointer (some ⟨b6,0,none⟩)),(8,.pointer (some ⟨b8,0,none⟩)),(9,.int .i64 1),(12,.pointer (some ⟨b12,0,none⟩)),(13,.int .i64 0)]∧As'=.cl b12 [.string ⟨(tN ((c.y:Rat)+s * ((p.y - c.y:Int):Rat))).toArray⟩,.string ⟨(tD ((c.y:Rat)+s * ((p.y - c.y:Int):Rat))).toArray⟩] 52::.cl b3 [.int .i64 c.x,.int .i64 c.y,.int .i64 c.z] 33::.cl b4 [.int .i64 p.x,.int .i64 p.y,.int .i64 p.z] 33::.cl b5 [.string ⟨(tN (s)).toArray⟩,.string ⟨(tD (s)).toArray⟩] 52::.cl b6 [.string ⟨#[]⟩,.string ⟨#[]⟩,.string ⟨#[]⟩,.string ⟨#[]⟩,.string ⟨#[]⟩,.string ⟨#[]⟩] 54::.cl b8 [.string ⟨(tN ((c.x:Rat)+s * ((p.x - c.x:Int):Rat))).toArray⟩,.string ⟨(tD ((c.x:Rat)+s * ((p.x - c.x:Int):Rat))).toArray⟩,.string ⟨#[]⟩,.string ⟨#[]⟩,.string ⟨#[]⟩,.string ⟨#[]⟩] 54::As) ?_ ?_
 ·refine Zaf [.cl b3 [.int .i64 c.x,.int .i64 c.y,.int .i64 c.z] 33,.cl b10 [.string ⟨(tN (s * ((p.y - c.y:Int):Rat))).toArray⟩,.string ⟨(tD (s * ((p.y - c.y:Int):Rat))).toArray⟩] 52] [] (.take 0 (.take 1 (.take 2 (.take 4 (.all [(3,.all [(5,.take 6 (.take 7 (.take 8 (.all [(9,.all [(10,.take 11 (.done))])])))),(9,.all [(5,.take 6 (.take 7 (.take 8 (.all [(10,.take 11 (.done))]))))])]),(9,.all [(3,.all [(5,.take 6 (.take 7 (.take 8 (.all [(10,.take 11 (.done))]))))])])]))))) ?_
  repeat' first|refine Kf ?_|intro _|constructor
  repeat' (first|(refine T1.callv rfl rfl rfl rfl rfl (Zdp (n:=c.y) (by omega)) ?_;rintro _ _ ⟨rfl,rfl⟩;(repeat' first|refine Kf ?_|intro _|constructor))|(refine T1.callv rfl rfl rfl rfl rfl (Zms ((Zba (z:=c.y) (by omega)).mono (by decide)) ((k c.y p.y (by omega) (by omega)).1.mono (by decide)) ((k c.y p.y (by omega) (by omega)).2.mono (by decide))) ?_;rintro _ _ ⟨rfl,rfl⟩;(repeat' first|refine Kf ?_|intro _|constructor)))
  all_goals exact Post.cut _ _ ⟨_,rfl,rfl⟩ Zad Zaa
 rintro _ _ ⟨b12,rfl,rfl⟩
 repeat' first|refine Kz ?_|intro _
 show Tri _ _ _ _ _ (.cl b8 [.string ⟨(tN ((c.x:Rat)+s * ((p.x - c.x:Int):Rat))).toArray⟩,.string ⟨(tD ((c.x:Rat)+s * ((p.x - c.x:Int):Rat))).toArray⟩,.string ⟨(tN ((c.y:Rat)+s * ((p.y - c.y:Int):Rat))).toArray⟩,.string ⟨(tD ((c.y:Rat)+s * ((p.y - c.y:Int):Rat))).toArray⟩,.string ⟨#[]⟩,.string ⟨#[]⟩] _::_) _
 repeat' first|refine Kz ?_|intro _
 refine Tri.mid (fun e' As'=>∃ b10,e'=[(3,.pointer (some ⟨b3,0,none⟩)),(4,.pointer (some ⟨b4,0,none⟩)),(5,.pointer (some ⟨b5,0,none⟩)),(6,.pointer (some ⟨b6,0,none⟩)),(8,.pointer (some ⟨b8,0,none⟩)),(9,.int .i64 2),(10,.pointer (some ⟨b10,0,none⟩)),(11,.int .i64 0)]∧As'=.cl b10 [.string ⟨(tN (s * ((p.z - c.z:Int):Rat))).toArray⟩,.string ⟨(tD (s * ((p.z - c.z:Int):Rat))).toArray⟩] 52::.cl b3 [.int .i64 c.x,.int .i64 c.y,.int .i64 c.z] 33::.cl b4 [.int .i64 p.x,.int .i64 p.y,.int .i64 p.z] 33::.cl b5 [.string ⟨(tN (s)).toArray⟩,.string ⟨(tD (s)).toArray⟩] 52::.cl b6 [.string ⟨#[]⟩,.string ⟨#[]⟩,.string ⟨#[]⟩,.string ⟨#[]⟩,.string ⟨#[]⟩,.string ⟨#[]⟩] 54::.cl b8 [.string ⟨(tN ((c.x:Rat)+s * ((p.x - c.x:Int):Rat))).toArray⟩,.string ⟨(tD ((c.x:Rat)+s * ((p.x - c.x:Int):Rat))).toArray⟩,.string ⟨(tN ((c.y:Rat)+s * ((p.y - c.y:Int):Rat))).toArray⟩,.string ⟨(tD ((c.y:Rat)+s * ((p.y - c.y:Int):Rat))).toArray⟩,.string ⟨#[]⟩,.string ⟨#[]⟩] 54::As) ?_ ?_
 ·refine Zaf [.cl b3 [.int .i64 c.x,.int .i64 c.y,.int .i64 c.z] 33,.cl b4 [.int .i64 p.x,.int .i64 p.y,.int .i64 p.z] 33,.cl b5 [.string ⟨(tN (s)).toArray⟩,.string ⟨(tD (s)).toArray⟩] 52] [] (.take 0 (.take 1 (.take 2 (.take 3 (.take 4 (.take 5 (.take 6 (.take 7 (.all [(8,.all [(9,.take 10 (.take 11 (.take 12 (.all [(13,.all [(14,.take 15 (.done))])])))),(13,.all [(9,.take 10 (.take 11 (.take 12 (.all [(14,.take 15 (.done))]))))])]),(13,.all [(8,.all [(9,.take 10 (.take 11 (.take 12 (.all [(14,.take 15 (.done))]))))])])]))))))))) ?_
  repeat' first|refine Kf ?_|intro _|constructor
  repeat' (first|(refine T1.callv rfl rfl rfl rfl rfl (Zdp (n:=p.z - c.z) (by omega)) ?_;rintro _ _ ⟨rfl,rfl⟩;(repeat' first|refine Kf ?_|intro _|constructor))|(refine T1.callv rfl rfl rfl rfl rfl (Zig (hs.mono (by decide)) ((Zba (z:=p.z - c.z) (by omega)).mono (by decide)) ((k c.z p.z (by omega) (by omega)).1.mono (by decide))) ?_;rintro _ _ ⟨rfl,rfl⟩;(repeat' first|refine Kf ?_|intro _|constructor)))
  all_goals exact Post.cut _ _ ⟨_,rfl,rfl⟩ Zad Zaa
 rintro _ _ ⟨b10,rfl,rfl⟩
 repeat' first|refine Kz ?_|intro _
 refine Tri.mid (fun e' As'=>∃ b12,e'=[(3,.pointer (some ⟨b3,0,none⟩)),(4,.pointer (some ⟨b4,0,none⟩)),(5,.pointer (some ⟨b5,0,none⟩)),(6,.pointer (some ⟨b6,0,none⟩)),(8,.pointer (some ⟨b8,0,none⟩)),(9,.int .i64 2),(12,.pointer (some ⟨b12,0,none⟩)),(13,.int .i64 0)]∧As'=.cl b12 [.string ⟨(tN ((c.z:Rat)+s * ((p.z - c.z:Int):Rat))).toArray⟩,.string ⟨(tD ((c.z:Rat)+s * ((p.z - c.z:Int):Rat))).toArray⟩] 52::.cl b3 [.int .i64 c.x,.int .i64 c.y,.int .i64 c.z] 33::.cl b4 [.int .i64 p.x,.int .i64 p.y,.int .i64 p.z] 33::.cl b5 [.string ⟨(tN (s)).toArray⟩,.string ⟨(tD (s)).toArray⟩] 52::.cl b6 [.string ⟨#[]⟩,.string ⟨#[]⟩,.string ⟨#[]⟩,.string ⟨#[]⟩,.string ⟨#[]⟩,.string ⟨#[]⟩] 54::.cl b8 [.string ⟨(tN ((c.x:Rat)+s * ((p.x - c.x:Int):Rat))).toArray⟩,.string ⟨(tD ((c.x:Rat)+s * ((p.x - c.x:Int):Rat))).toArray⟩,.string ⟨(tN ((c.y:Rat)+s * ((p.y - c.y:Int):Rat))).toArray⟩,.string ⟨(tD ((c.y:Rat)+s * ((p.y - c.y:Int):Rat))).toArray⟩,.string ⟨#[]⟩,.string ⟨#[]⟩] 54::As) ?_ ?_
 ·refine Zaf [.cl b3 [.int .i64 c.x,.int .i64 c.y,.int .i64 c.z] 33,.cl b10 [.string ⟨(tN (s * ((p.z - c.z:Int):Rat))).toArray⟩,.string ⟨(tD (s * ((p.z - c.z:Int):Rat))).toArray⟩] 52] [] (.take 0 (.take 1 (.take 2 (.take 4 (.all [(3,.all [(5,.take 6 (.take 7 (.take 8 (.all [(9,.all [(10,.take 11 (.done))])])))),(9,.all [(5,.take 6 (.take 7 (.take 8 (.all [(10,.take 11 (.done))]))))])]),(9,.all [(3,.all [(5,.take 6 (.take 7 (.take 8 (.all [(10,.take 11 (.done))]))))])])]))))) ?_
  repeat' first|refine Kf ?_|intro _|constructor
  repeat' (first|(refine T1.callv rfl rfl rfl rfl rfl (Zdp (n:=c.z) (by omega)) ?_;rintro _ _ ⟨rfl,rfl⟩;(repeat' first|refine Kf ?_|intro _|constructor))|(refine T1.callv rfl rfl rfl rfl rfl (Zms ((Zba (z:=c.z) (by omega)).mono (by decide)) ((k c.z p.z (by omega) (by omega)).1.mono (by decide)) ((k c.z p.z (by omega) (by omega)).2.mono (by decide))) ?_;rintro _ _ ⟨rfl,rfl⟩;(repeat' first|refine Kf ?_|intro _|constructor)))
  all_goals exact Post.cut _ _ ⟨_,rfl,rfl⟩ Zad Zaa
 rintro _ _ ⟨b12,rfl,rfl⟩
 repeat' first|refine Kz ?_|intro _
 exact Kv
set_option maxRecDepth 100000 in
set_option maxHeartbeats 4000000 in
theorem Z66 {k m:Int} {t:Rat} (h0:0≤k) (h1:k < 1000) (h2:1000 < m) (h3:m≤10000) (hf:Fit 19 t) (hp:0 < t):CallsS Tryz.prog w0 56 [frV t,.int .i64 k,.int .i64 m] As fun r Bs=>∃ s,pressQ k m t=.inr s∧r=.tuple #[frV s,.int .i64 0]∧Bs=As:=by
 obtain ⟨f1,f2,f3,f4,f5,f6,f7,f8⟩:=Zkz h0 h1 h2 h3 hf
 obtain ⟨g1,g2,g3⟩:=Zow h0 h1 h2 h3 hf
 have fk:=Zfq (n:=k) h0 (by omega)
 have fm:=Zfq (n:=m) (by omega) h3
 have hne:=Z3v h1 h2
 have ht0:t≠0:=by grind
 unfold pressQ
 rw [if_neg ht0]
 rw [Rat.one_mul] at f1 f2 f4 f6 f7 f8 g1 g2 g3
 have hko:=fun Bs:List Ent=>Z2m (w0:=w0) (As:=Bs) (n:=k) (d:=1000) (by omega) (by decide) (by decide)
 have hmo:=fun Bs:List Ent=>Z2m (w0:=w0) (As:=Bs) (n:=m) (d:=1000) (by omega) (by decide) (by decide)
 generalize qI k 1000=K at *
 generalize qI m 1000=M at *
 have hdv:=fun Bs:List Ent=>Zkj (w0:=w0) (As:=Bs) (r:=1) (s:=t) (fit1.mono (by decide)) (hf.mono (by decide)) ht0 (by rw [Rat.one_mul];exact f1.mono (by decide))
 rw [Rat.one_mul] at hdv
 have hfin:Fit 156 (t * (K+(1 - K) * (t⁻¹ - K) * (M - K)⁻¹)):=by rw [Zs5];exact f8
 rw [← Zs5]
 generalize t⁻¹=D at *
 have o1:=@Zji D K
 have o2:=@Zhn D M
 refine Zab Tryz.func56 rfl Tryz.ntmps56 rfl ?_
 show Tri _ _ _ _ (env0 0 [.agg #[.string ⟨(tN t).toArray⟩,.string ⟨(tD t).toArray⟩],.int .i64 k,.int .i64 m]) _ _
 repeat' first|refine Kz ?_|intro _
 refine TL.callv rfl rfl rfl rfl (Zdp (n:=1) (by decide)) ?_
 rw [show ((1:Int):Rat)=1 from rfl]
 rintro _ _ ⟨rfl,rfl⟩
 repeat' first|refine Kz ?_|intro _
 refine Ks rfl (hdv _) ?_
 repeat' first|refine Kz ?_|intro _
 refine Ks rfl (hko _) ?_
 repeat' first|refine Kz ?_|intro _
 refine Ks rfl (hmo _) ?_
 repeat' first|refine Kz ?_|intro _
 refine Ks rfl (Zio (r:=D) (s:=K) (f1.mono (by decide)) (fk.mono (by decide))) ?_
 by_cases q1:D≤K
 ·have o3:ordQ D K≤0:=Int.not_lt.1 fun h=>Rat.not_lt.2 q1 (o1.1 h)
  rw [if_pos q1]
  generalize ordQ D K=O at *
  repeat' first|refine Kz ?_|intro _
  (refine Zac ?_)
  exact ⟨_,⟨1,rfl,rfl,rfl⟩,Zaa⟩
 ·have o3:¬ ordQ D K≤0:=by have:=o1.2 (Rat.not_le.1 q1);omega
  rw [if_neg q1]
  generalize ordQ D K=O at *
  repeat' first|refine Kz ?_|intro _
  refine Ks rfl (Zio (r:=D) (s:=M) (f1.mono (by decide)) (fm.mono (by decide))) ?_
  by_cases q2:M≤D
  ·have o4:0≤ordQ D M:=Int.not_lt.1 fun h=>Rat.not_lt.2 q2 (o2.1 h)
   rw [if_pos q2]
   generalize ordQ D M=O' at *
   repeat' first|refine Kz ?_|intro _
   (refine Zac ?_)
   exact ⟨_,⟨t,rfl,rfl,rfl⟩,Zaa⟩
  ·have o4:¬ 0≤ordQ D M:=by have:=o2.2 (Rat.not_le.1 q2);omega
   rw [if_neg q2]
   generalize ordQ D M=O' at *
   repeat' first|refine Kz ?_|intro _
   refine Ks rfl (Zgp (r:=1) (s:=K) (fit1.mono (by decide)) (fk.mono (by decide)) (f5.mono (by decide))) ?_
   repeat' first|refine Kz ?_|intro _
   refine Ks rfl (Zgp (r:=D) (s:=K) (f1.mono (by decide)) (fk.mono (by decide)) (f2.mono (by decide))) ?_
   repeat' first|refine Kz ?_|intro _
   refine Ks rfl (Zgp (r:=M) (s:=K) (fm.mono (by decide)) (fk.mono (by decide)) (f3.mono (by decide))) ?_
   repeat' first|refine Kz ?_|intro _
   refine Ks rfl (Zig (r:=1 - K) (s:=D - K) (f5.mono (by decide)) (f2.mono (by decide)) (g1.mono (by decide))) ?_
   repeat' first|refine Kz ?_|intro _
   refine Ks rfl (Zkj (r:=(1 - K) * (D - K)) (s:=M - K) (g1.mono (by decide)) (f3.mono (by decide)) hne (g2.mono (by decide))) ?_
   repeat' first|refine Kz ?_|intro _
   refine Ks rfl (Zms (r:=K) (s:=(1 - K) * (D - K) * (M - K)⁻¹) (fk.mono (by decide)) (g2.mono (by decide)) (g3.mono (by decide))) ?_
   repeat' first|refine Kz ?_|intro _
   refine Ks rfl (Zig (r:=t) (s:=K+(1 - K) * (D - K) * (M - K)⁻¹) (hf.mono (by decide)) (g3.mono (by decide)) (hfin.mono (by decide))) ?_
   repeat' first|refine Kz ?_|intro _
   (refine Zac ?_)
   exact ⟨_,⟨_,rfl,rfl,rfl⟩,Zaa⟩
end Go.Proofs.YtngcfjfaobcpmaaGreatDoor

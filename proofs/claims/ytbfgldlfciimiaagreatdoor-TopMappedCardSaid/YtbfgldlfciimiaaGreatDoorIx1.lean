/- Walks: inside: vectors, determinants, signs. -/
import Derived.Test.YtbfgldlfciimiaaGreatDoorMa1
import Derived.Test.YtbfgldlfciimiaaGreatDoorIw1
import Derived.Test.YtbfgldlfciimiaaGreatDoorCc3
import Derived.Test.YtbfgldlfciimiaaGreatDoorSxP
set_option maxHeartbeats 1000000
namespace Go.Sx
open Go
theorem Zv1 {m n:Int} (hm:0≤m) (hn:0≤n) {a b:V3} (h:a.in m) (k:b.in n):-(m * n)≤a.x * b.x∧a.x * b.x≤m * n∧-(m * n)≤a.y * b.y∧a.y * b.y≤m * n∧-(m * n)≤a.z * b.z∧a.z * b.z≤m * n:=by
 obtain ⟨h1,h2,h3,h4,h5,h6⟩:=h
 obtain ⟨k1,k2,k3,k4,k5,k6⟩:=k
 exact ⟨(Za5 hm hn h1 h2 k1 k2).1,(Za5 hm hn h1 h2 k1 k2).2,(Za5 hm hn h3 h4 k3 k4).1,(Za5 hm hn h3 h4 k3 k4).2,(Za5 hm hn h5 h6 k5 k6).1,(Za5 hm hn h5 h6 k5 k6).2⟩
theorem Zky {l m n:Int} (hl:0≤l) (hm:0≤m) (hn:0≤n) {a b c:V3} (ha:a.in l) (hb:b.in m) (hc:c.in n):-(3 * (l * (2 * (m * n))))≤det3 a b c∧det3 a b c≤3 * (l * (2 * (m * n))):=by
 have h0:0≤m * n:=Int.mul_nonneg hm hn
 have h1:=Zd8 hm hn hb hc
 obtain ⟨g1,g2,g3,g4,g5,g6⟩:=Zv1 hl (by omega) ha h1
 unfold det3 V3.dot
 omega
theorem Zkf {m n:Int} {a:V3} (h:a.in m) (hmn:m≤n):a.in n:=by
 obtain ⟨h1,h2,h3,h4,h5,h6⟩:=h
 exact ⟨by omega,by omega,by omega,by omega,by omega,by omega⟩
end Go.Sx
namespace Go.Proofs.YtbfgldlfciimiaaGreatDoor
open Go Go.Sx
variable {w0:World} {As:List Ent}
theorem Zfq {p q:V3} {m n:Int} (hp:p.in m) (hq:q.in n) (hm:m+n≤9223372036854775807) :
  CQ Tryz.prog w0 104 [p.val,q.val] As ((p.sub q).val):=by
 obtain ⟨h1,h2,h3,h4,h5,h6⟩:=hp
 obtain ⟨k1,k2,k3,k4,k5,k6⟩:=hq
 refine Zab Tryz.func104 rfl Tryz.ntmps104 rfl ?_
 repeat' first|refine Kz ?_|intro _
 exact Kv
theorem Zta {p q:V3} {m n:Int} (hp:p.in m) (hq:q.in n) (g0:0≤m) (g1:0≤n) (hm:2 * (m * n)≤9223372036854775807) :
  CQ Tryz.prog w0 191 [p.val,q.val] As ((p.cross q).val):=by
 obtain ⟨h1,h2,h3,h4,h5,h6⟩:=hp
 obtain ⟨k1,k2,k3,k4,k5,k6⟩:=hq
 have a1:=Za5 g0 g1 h3 h4 k5 k6
 have a2:=Za5 g0 g1 h5 h6 k3 k4
 have a3:=Za5 g0 g1 h5 h6 k1 k2
 have a4:=Za5 g0 g1 h1 h2 k5 k6
 have a5:=Za5 g0 g1 h1 h2 k3 k4
 have a6:=Za5 g0 g1 h3 h4 k1 k2
 refine Zab Tryz.func191 rfl Tryz.ntmps191 rfl ?_
 repeat' first|refine Kz ?_|intro _
 exact Kv
theorem Zqp {u v w:V3} {l m n:Int} (hu:u.in l) (hv:v.in m) (hw:w.in n) (g0:0≤l) (g1:0≤m) (g2:0≤n) (hb:3 * (l * (2 * (m * n)))≤9223372036854775807) (hc:2 * (m * n)≤9223372036854775807) :
  CQ Tryz.prog w0 151 [u.val,v.val,w.val] As (.int .i64 (det3 u v w)):=by
 have hx:=Zd8 g1 g2 hv hw
 have g3:0≤m * n:=Int.mul_nonneg g1 g2
 obtain ⟨d1,d2,d3,d4,d5,d6⟩:=Zv1 g0 (show 0≤2 * (m * n) by omega) hu hx
 have hB:0≤l * (2 * (m * n)):=Int.mul_nonneg g0 (by omega)
 refine Zab Tryz.func151 rfl Tryz.ntmps151 rfl ?_
 show Tri _ _ _ _ (env0 0 [.agg #[.int .i64 u.x,.int .i64 u.y,.int .i64 u.z],.agg #[.int .i64 v.x,.int .i64 v.y,.int .i64 v.z],.agg #[.int .i64 w.x,.int .i64 w.y,.int .i64 w.z]]) _ _
 repeat' first|refine Kz ?_|intro _
 refine Ks rfl (Zta (p:=v) (q:=w) hv hw g1 g2 hc) ?_
 show TL _ _ _ _ _ ((_,.agg #[.int .i64 (v.cross w).x,.int .i64 (v.cross w).y,.int .i64 (v.cross w).z])::_) _ _
 have e:det3 u v w=u.x * (v.cross w).x+u.y * (v.cross w).y+u.z * (v.cross w).z:=rfl
 rw [e]
 generalize v.cross w=c at *
 generalize l * (2 * (m * n))=B at *
 clear e hx hc
 repeat' first|refine Kz ?_|intro _
 exact Kv
theorem Zb1 {n:Int}:CQ Tryz.prog w0 108 [.int .i64 n] As (.int .i64 n.sign):=by
 refine Zab Tryz.func108 rfl Tryz.ntmps108 rfl ?_
 rcases Int.lt_trichotomy n 0 with h|h|h
 ·rw [Int.sign_eq_neg_one_of_neg h]
  repeat' first|refine Kz ?_|intro _
  exact Kv
 ·subst h
  repeat' first|refine Kz ?_|intro _
  exact Kv
 ·rw [Int.sign_eq_one_of_pos h]
  repeat' first|refine Kz ?_|intro _
  exact Kv
def triV (a b c:V3):Value:=.agg #[.int .i64 a.x,.int .i64 a.y,.int .i64 a.z,.int .i64 b.x,.int .i64 b.y,.int .i64 b.z,.int .i64 c.x,.int .i64 c.y,.int .i64 c.z]
theorem Zmt {a b c:V3} {l:Int} (ha:a.in l) (hb:b.in l) (hc:c.in l) (g0:0≤l) (hB:3 * (l * (2 * (l * l)))≤9223372036854775807) (hC:2 * (l * l)≤9223372036854775807) :
  CQ Tryz.prog w0 105 [triV a b c] As (.int .i64 (det3 a b c)):=by
 refine Zab Tryz.func105 rfl Tryz.ntmps105 rfl ?_
 show Tri _ _ _ _ (env0 0 [.agg #[.int .i64 a.x,.int .i64 a.y,.int .i64 a.z,.int .i64 b.x,.int .i64 b.y,.int .i64 b.z,.int .i64 c.x,.int .i64 c.y,.int .i64 c.z]]) _ _
 repeat' first|refine Kz ?_|intro _
 refine Ks rfl (Zqp (u:=a) (v:=b) (w:=c) ha hb hc g0 g0 g0 hB hC) ?_
 repeat' first|refine Kz ?_|intro _
 exact Kv
theorem Zo4 {a b c:V3} {l:Int} (ha:a.in l) (hb:b.in l) (hc:c.in l) (g0:0≤l) (hB:2 * ((l+l) * (l+l))≤9223372036854775807) (hC:l+l≤9223372036854775807) :
  CQ Tryz.prog w0 192 [triV a b c] As ((nrm a b c).val):=by
 refine Zab Tryz.func192 rfl Tryz.ntmps192 rfl ?_
 show Tri _ _ _ _ (env0 0 [.agg #[.int .i64 a.x,.int .i64 a.y,.int .i64 a.z,.int .i64 b.x,.int .i64 b.y,.int .i64 b.z,.int .i64 c.x,.int .i64 c.y,.int .i64 c.z]]) _ _
 repeat' first|refine Kz ?_|intro _
 rename_i b1 b2
 refine Zag [.cl b1 [.int .i64 a.x,.int .i64 a.y,.int .i64 a.z,.int .i64 b.x,.int .i64 b.y,.int .i64 b.z,.int .i64 c.x,.int .i64 c.y,.int .i64 c.z] 144] [] (.take 0 (.take 1 (.take 2 (.take 3 (.take 5 (.take 6 (.take 7 (.take 8 (.all [(4,.all [(9,.all [(10,.all [(11,.done)])])])]))))))))) ?_
 repeat' first|refine Kf ?_|intro _|constructor
 iterate 3
  all_goals
   first
    | (refine T1.callv rfl rfl rfl rfl rfl (Zfq (p:=b) (q:=a) hb ha hC) ?_
       rintro _ _ ⟨rfl,rfl⟩)
    | (refine T1.callv rfl rfl rfl rfl rfl (Zfq (p:=c) (q:=a) hc ha hC) ?_
       rintro _ _ ⟨rfl,rfl⟩)
    | (refine T1.callv rfl rfl rfl rfl rfl (Zta (p:=b.sub a) (q:=c.sub a) (Zdy hb ha) (Zdy hc ha) (by omega) (by omega) hB) ?_
       rintro _ _ ⟨rfl,rfl⟩)
   repeat' first|refine Kf ?_|intro _|constructor
 all_goals
  exact Kv
def shV (a b c d:V3):V3:=⟨det3 d b c,det3 a d c,det3 a b d⟩
theorem Zo3 {a b c d:V3} (ha:a.in 400000) (hb:b.in 400000) (hc:c.in 400000) (hd:d.in 3243601) :
  CQ Tryz.prog w0 109 [triV a b c,d.val] As ((shV a b c d).val):=by
 refine Zab Tryz.func109 rfl Tryz.ntmps109 rfl ?_
 show Tri _ _ _ _ (env0 0 [.agg #[.int .i64 a.x,.int .i64 a.y,.int .i64 a.z,.int .i64 b.x,.int .i64 b.y,.int .i64 b.z,.int .i64 c.x,.int .i64 c.y,.int .i64 c.z],.agg #[.int .i64 d.x,.int .i64 d.y,.int .i64 d.z]]) _ _
 repeat' first|refine Kz ?_|intro _
 rename_i b2 b3 b4
 refine Zag [.cl b2 [.int .i64 a.x,.int .i64 a.y,.int .i64 a.z,.int .i64 b.x,.int .i64 b.y,.int .i64 b.z,.int .i64 c.x,.int .i64 c.y,.int .i64 c.z] 144,.cl b3 [.int .i64 d.x,.int .i64 d.y,.int .i64 d.z] 139] [] (.take 0 (.take 1 (.take 2 (.take 3 (.take 4 (.take 6 (.take 7 (.take 8 (.take 9 (.take 10 (.take 12 (.take 13 (.take 14 (.take 15 (.take 16 (.all [(5,.all [(11,.all [(17,.take 18 (.all [(19,.done)]))])])])))))))))))))))) ?_
 repeat' first|refine Kf ?_|intro _|constructor
 iterate 3
  all_goals
   first
    | (refine T1.callv rfl rfl rfl rfl rfl (Zqp (u:=d) (v:=b) (w:=c) hd hb hc (by decide) (by decide) (by decide) (by decide) (by decide)) ?_
       rintro _ _ ⟨rfl,rfl⟩)
    | (refine T1.callv rfl rfl rfl rfl rfl (Zqp (u:=a) (v:=d) (w:=c) ha hd hc (by decide) (by decide) (by decide) (by decide) (by decide)) ?_
       rintro _ _ ⟨rfl,rfl⟩)
    | (refine T1.callv rfl rfl rfl rfl rfl (Zqp (u:=a) (v:=b) (w:=d) ha hb hd (by decide) (by decide) (by decide) (by decide) (by decide)) ?_
       rintro _ _ ⟨rfl,rfl⟩)
   repeat' first|refine Kf ?_|intro _|constructor
 all_goals
  exact Kv
theorem Zvr {p:V3}:CQ Tryz.prog w0 33 [p.val] As (.bool (isFar p)):=by
 refine Zab Tryz.func33 rfl Tryz.ntmps33 rfl ?_
 show Tri _ _ _ _ (env0 0 [.agg #[.int .i64 p.x,.int .i64 p.y,.int .i64 p.z]]) _ _
 repeat' first|refine Kz ?_|intro _
 refine Zao 4 ?_
 (repeat' (first|((show TL _ _ _ _ (_::_) _ _ _;first|refine Ze1 ?_|refine Zey ?_|(refine Zcn ?_;intro _)|(refine Zdd ?_;first|rintro _ _ ⟨rfl,rfl⟩|rintro _ _ rfl)|refine Zbp ?_|refine Zbb ?_|refine Ze0 ?_|fail))|(refine Stp.h ?_)|(first|(show TT _ _ _ _ _ _ _ _ _;first|refine Zgh ?_|refine Zex ?_|refine Zc3 ?_|refine Zwc ?_|fail)|exact TTs.nil|refine TTs.cons ?_ ?_|(show T1 _ _ _ _ _ _ _ _ _ _;first|refine Zwd ?_|(refine Znj ?_;intro _)|(refine Zni ?_;first|rintro _ _ ⟨rfl,rfl⟩|rintro _ _ rfl)|refine Zwe ?_|refine Ziq ?_|refine Zgi ?_|fail)|(show TC _ _ _ _ _ _ _ _ _ _;first|refine Znh ?_|refine Zip ?_|fail))|((show Tri _ _ _ (.cond _ _ _) _ _ _;first|refine Zbn ?_|refine Zbo ?_|refine Zat ?_|refine Zau ?_|refine Zap ?_|refine Zaq ?_|fail))|(first|refine Zbg rfl rfl (fun hgs=>?_) (fun hgs=>?_)|refine Za7 rfl rfl (fun hgs=>?_) (fun hgs=>?_)|refine Zbf rfl rfl rfl (fun hgs=>?_) (fun hgs=>?_)|refine Za6 rfl rfl rfl (fun hgs=>?_) (fun hgs=>?_))|(refine Kx (fun hc=>?_) fun hc=>?_)))
 all_goals
  (refine Zac ?_)
  refine ⟨_,⟨?_,rfl⟩,Zaa⟩
  rw [Value.bool.injEq]
  simp [isFar]
  omega
end Go.Proofs.YtbfgldlfciimiaaGreatDoor
namespace Go.Sx
open Go
theorem Zmy {n d:Int} (hn:-9223372036854775807≤n∧n≤9223372036854775807) (hd:-9223372036854775807≤d∧d≤9223372036854775807) (h0:d≠0):Fit 19 (qI n d):=by
 unfold qI
 have hd0:d.natAbs≠0:=by omega
 obtain ⟨e1,e2⟩:=Zf6 (n:=if d < 0 then -n else n) hd0
 have hn2:(if d < 0 then -n else n).natAbs≤9223372036854775807:=by split<;>omega
 refine Fit.of (by decide) ?_ ?_
 ·rw [e1]
  refine Nat.lt_of_le_of_lt (Int.natAbs_ediv_le_natAbs _ _) (Nat.lt_of_le_of_lt hn2 (by decide))
 ·rw [e2]
  exact Nat.lt_of_le_of_lt (Nat.div_le_self _ _) (Nat.lt_of_le_of_lt (show d.natAbs≤9223372036854775807 by omega) (by decide))
theorem fit0:Fit 19 (0:Rat):=Fit.mono (k:=1) (Fit.of (by decide) (by decide) (by decide)) (by decide)
theorem fit1:Fit 19 (1:Rat):=Fit.mono (k:=1) (Fit.of (by decide) (by decide) (by decide)) (by decide)
def Spn.fit (s:Spn):Prop:=Fit 19 s.low∧Fit 19 s.high
def spnV (s:Spn):Value:=.agg #[.string ⟨(tN s.low).toArray⟩,.string ⟨(tD s.low).toArray⟩,.string ⟨(tN s.high).toArray⟩,.string ⟨(tD s.high).toArray⟩,.bool s.opn]
theorem Z79 {s:Spn} {u v:Int} (hs:s.fit) (hn:-9223372036854775807≤u∧u≤9223372036854775807) (hd:-9223372036854775807≤v∧v≤9223372036854775807) (h0:v≠0):(cutV s u v).fit:=by
 have hq:=Zmy (n:=-u) (by omega) hd h0
 unfold cutV
 split
 ·exact ⟨hq,hs.2⟩
 ·split
  ·exact ⟨hs.1,hq⟩
  ·exact hs
theorem Spn.fit.cut {s t:Spn} {u v:Int} (hs:s.fit) (hn:-9223372036854775807≤u∧u≤9223372036854775807) (hd:-9223372036854775807≤v∧v≤9223372036854775807) (h:cutS s u v=some t):t.fit:=by
 unfold cutS at h
 split at h
 ·split at h
  ·rw [← Option.some.inj h];exact hs
  ·cases h
 ·rename_i h0
  split at h
  ·rw [← Option.some.inj h];exact Z79 hs hn hd h0
  ·cases h
end Go.Sx
namespace Go.Proofs.YtbfgldlfciimiaaGreatDoor
open Go Go.Sx
variable {w0:World} {As:List Ent}
def failV (e:Int):Value:=.iface 137 (.agg #[.int .i64 e])
theorem Zk8:CQ Tryz.prog w0 32 [.int .i64 0] As (.tuple #[]):=by
 refine Zab Tryz.func32 rfl Tryz.ntmps32 rfl ?_
 repeat' first|refine Kz ?_|intro _
 exact Kv
theorem Zid {e:Int} (h:e≠0):CallsP Tryz.prog w0 32 [.int .i64 e] As fun r Bs=>r=failV e∧Bs=As:=by
 refine Zec Tryz.func32 rfl Tryz.ntmps32 rfl ?_
 repeat' first|refine Kz ?_|intro _
 refine TL.f rfl rfl (Ze4 rfl rfl) ?_
 refine TL.panic rfl rfl ?_
 repeat' first|refine Kz ?_|intro _
 exact Zay rfl ⟨_,⟨rfl,rfl⟩,Zaa⟩
theorem Zcr {v:Int}:CQ Tryz.prog w0 164 [.int .i64 v,.int .i64 0] As (.int .i64 v):=by
 refine Zab Tryz.func164 rfl Tryz.ntmps164 rfl ?_
 repeat' first|refine Kz ?_|intro _
 refine TL.call rfl rfl rfl Zk8 ?_
 rintro _ Bs ⟨rfl,hB⟩
 rw [hB];clear hB Bs
 repeat' first|refine Kz ?_|intro _
 exact Kv
theorem Zlj {n d:List UInt8}:CQ Tryz.prog w0 154 [.agg #[.string ⟨n.toArray⟩,.string ⟨d.toArray⟩],.int .i64 0] As (.agg #[.string ⟨n.toArray⟩,.string ⟨d.toArray⟩]):=by
 refine Zab Tryz.func154 rfl Tryz.ntmps154 rfl ?_
 repeat' first|refine Kz ?_|intro _
 refine Kt rfl Zk8 ?_
 repeat' first|refine Kz ?_|intro _
 exact Kv
theorem Zg0 (ht:Tab w0) {n d:Int} (hn:-9223372036854775807≤n∧n≤9223372036854775807) (hd:-9223372036854775807≤d∧d≤9223372036854775807) (h0:d≠0) :
  CQ Tryz.prog w0 67 [.int .i64 n,.int .i64 d] As (.tuple #[.agg #[.string ⟨(tN (qI n d)).toArray⟩,.string ⟨(tD (qI n d)).toArray⟩],.int .i64 0]):=by
 have k:=Q.Yh7 (w0:=w0) (As:=As) ht (n:=n) (d:=d) (by omega) (by omega)
 have e:Q.ofO n d=(tN (qI n d),tD (qI n d),0):=by
  unfold Q.ofO
  rw [if_neg h0]
  exact ((Zmy hn hd h0).mono (by decide)).ot
 rw [e] at k
 exact k
theorem Zcs {r s:Rat} (hr:Fit 600 r) (hs:Fit 600 s) :
  CQ Tryz.prog w0 82 [.agg #[.string ⟨(tN r).toArray⟩,.string ⟨(tD r).toArray⟩],.agg #[.string ⟨(tN s).toArray⟩,.string ⟨(tD s).toArray⟩]] As (.tuple #[.int .i64 (ordQ r s),.int .i64 0]):=by
 have k:=Q.Ybr (w0:=w0) (As:=As) (Zdw hr) (Zdx hr) (Zdw hs) (Zdx hs)
 rw [hr.rd,hs.rd] at k
 exact k
theorem Zxt (ht:Tab w0) {b:Bool}:CQ Tryz.prog w0 107 [.bool b] As (spnV (path0 b)):=by
 refine Zab Tryz.func107 rfl Tryz.ntmps107 rfl ?_
 repeat' first|refine Kz ?_|intro _
 refine TL.callv rfl rfl rfl rfl (Zg0 ht (n:=0) (d:=1) (by decide) (by decide) (by decide)) ?_
 rw [show qI 0 1=0 by decide +kernel]
 rintro _ _ ⟨rfl,rfl⟩
 repeat' first|refine Kz ?_|intro _
 refine Kt rfl Zlj ?_
 repeat' first|refine Kz ?_|intro _
 refine TL.callv rfl rfl rfl rfl (Zg0 ht (n:=1) (d:=1) (by decide) (by decide) (by decide)) ?_
 rw [show qI 1 1=1 by decide +kernel]
 rintro _ _ ⟨rfl,rfl⟩
 repeat' first|refine Kz ?_|intro _
 refine Kt rfl Zlj ?_
 repeat' first|refine Kz ?_|intro _
 exact Kv
theorem Zjc (L H:Rat):decide (ordQ L H≤0)=decide (Spn.ne ⟨L,H,false⟩):=by
 rw [decide_eq_decide]
 unfold Spn.ne
 have h:=@Zqh L H
 constructor
 ·intro h1
  exact .inr (Rat.not_lt.1 fun h2=>by have:=h.2 h2;omega)
 ·rintro (h1|h1)
  ·cases h1
  ·have:¬ 0 < ordQ L H:=fun h2=>Rat.not_lt.2 h1 (h.1 h2)
   omega
theorem Z26 (L H:Rat):true=decide (Spn.ne ⟨L,H,true⟩):=(decide_eq_true (.inl rfl)).symm
def CutR (As:List Ent) (s:Spn) (u v:Int) (r:Value) (Bs:List Ent):Prop:=r=.tuple #[spnV (if v=0 then s else cutV s u v),.bool (cutS s u v).isSome]∧Bs=As
set_option maxRecDepth 100000 in
theorem Zvs (ht:Tab w0) {s:Spn} {u v:Int} (hs:s.fit) (hu:-9223372036854775807≤u∧u≤9223372036854775807) (hv:-9223372036854775807≤v∧v≤9223372036854775807) :
  CallsS Tryz.prog w0 153 [spnV s,.int .i64 u,.int .i64 v] As (CutR As s u v):=by
 refine Zab Tryz.func153 rfl Tryz.ntmps153 rfl ?_
 show Tri _ _ _ _ (env0 0 [.agg #[.string ⟨(tN s.low).toArray⟩,.string ⟨(tD s.low).toArray⟩,.string ⟨(tN s.high).toArray⟩,.string ⟨(tD s.high).toArray⟩,.bool s.opn],.int .i64 u,.int .i64 v]) _ _
 by_cases h0:v=0
 ·subst h0
  repeat' first|refine Kz ?_|intro _
  (refine Zac ?_)
  refine ⟨_,⟨?_,rfl⟩,Zaa⟩
  unfold cutS spnV
  rw [if_pos rfl,if_pos rfl]
  by_cases hu0:0≤u
  ·rw [if_pos hu0,decide_eq_true (by omega)];rfl
  ·rw [if_neg hu0,decide_eq_false (by omega)];rfl
 ·have fq:Fit 600 (qI (-u) v):=(Zmy (n:=-u) (by omega) hv h0).mono (by decide)
  have fl:Fit 600 s.low:=hs.1.mono (by decide)
  have fh:Fit 600 s.high:=hs.2.mono (by decide)
  have hR:CutR As s u v=fun r Bs=>r=.tuple #[spnV (cutV s u v),.bool (decide (cutV s u v).ne)]∧Bs=As:=by
   funext r Bs
   unfold CutR cutS
   rw [if_neg h0,if_neg h0]
   by_cases hn:(cutV s u v).ne
   ·rw [if_pos hn,decide_eq_true hn];rfl
   ·rw [if_neg hn,decide_eq_false hn];rfl
  rw [hR]
  clear hR
  repeat' first|refine Kz ?_|intro _
  refine Ks rfl (Zg0 ht (n:=-u) (d:=v) (by omega) hv h0) ?_
  repeat' first|refine Kz ?_|intro _
  refine Kt rfl Zlj ?_
  unfold cutV
  generalize qI (-u) v=q at fq ⊢
  have o1:=@Zqh q s.low
  have o2:=@Zvd q s.high
  obtain ⟨L,H,o⟩:=s
  simp only at o1 o2 fl fh hs ⊢
  rcases Int.lt_or_gt_of_ne h0 with hv0|hv0
  ·have hv1:¬ 0 < v:=by omega
   rw [if_neg (fun h=>hv1 h.1)]
   cases o with
   | true =>
    rw [if_pos ⟨hv0,.inl rfl⟩]
    repeat' first|refine Kz ?_|intro _
    rename_i b3 b6 b8
    show Tri _ _ _ _ _ (.cl b3 [.string ⟨(tN L).toArray⟩,.string ⟨(tD L).toArray⟩,.string ⟨(tN q).toArray⟩,.string ⟨(tD q).toArray⟩,.bool false] _::_) _
    refine Zag [.cl b3 [.string ⟨(tN L).toArray⟩,.string ⟨(tD L).toArray⟩,.string ⟨(tN q).toArray⟩,.string ⟨(tD q).toArray⟩,.bool false] 179] [] (.take 0 (.take 1 (.take 2 (.take 3 (.take 4 (.take 5 (.take 6 (.take 7 (.all [(8,.take 9 (.take 10 (.all [(11,.take 12 (.take 13 (.all [(14,.take 15 (.done))])))])))]))))))))) ?_
    repeat' first|refine Kf ?_|intro _|constructor
    refine Ku rfl (Zcs (r:=L) (s:=q) fl fq) ?_
    repeat' first|refine Kf ?_|intro _|constructor
    refine Ku rfl Zcr ?_
    repeat' first|refine Kf ?_|intro _|constructor
    (refine Zac ?_)
    refine ⟨_,⟨?_,rfl⟩,Zaa⟩
    rw [Zjc];rfl
   | false =>
    by_cases hq:q < H
    ·rw [if_pos ⟨hv0,.inr hq⟩]
     have o3:=o2.2 hq
     repeat' first|refine Kz ?_|intro _
     refine Ks rfl (Zcs (r:=q) (s:=H) fq fh) ?_
     repeat' first|refine Kz ?_|intro _
     refine Kt rfl Zcr ?_
     repeat' first|refine Kz ?_|intro _
     rename_i b3 b6 b8
     show Tri _ _ _ _ _ (.cl b3 [.string ⟨(tN L).toArray⟩,.string ⟨(tD L).toArray⟩,.string ⟨(tN q).toArray⟩,.string ⟨(tD q).toArray⟩,.bool false] _::_) _
     refine Zag [.cl b3 [.string ⟨(tN L).toArray⟩,.string ⟨(tD L).toArray⟩,.string ⟨(tN q).toArray⟩,.string ⟨(tD q).toArray⟩,.bool false] 179] [] (.take 0 (.take 1 (.take 2 (.take 3 (.take 4 (.take 5 (.take 6 (.take 7 (.all [(8,.take 9 (.take 10 (.all [(11,.take 12 (.take 13 (.all [(14,.take 15 (.done))])))])))]))))))))) ?_
     repeat' first|refine Kf ?_|intro _|constructor
     refine Ku rfl (Zcs (r:=L) (s:=q) fl fq) ?_
     repeat' first|refine Kf ?_|intro _|constructor
     refine Ku rfl Zcr ?_
     repeat' first|refine Kf ?_|intro _|constructor
     (refine Zac ?_)
     refine ⟨_,⟨?_,rfl⟩,Zaa⟩
     rw [Zjc];rfl
    ·rw [if_neg (fun h=>by rcases h.2 with h|h;cases h;exact hq h)]
     have o3:¬ ordQ q H < 0:=fun h=>hq (o2.1 h)
     repeat' first|refine Kz ?_|intro _
     refine Ks rfl (Zcs (r:=q) (s:=H) fq fh) ?_
     repeat' first|refine Kz ?_|intro _
     refine Kt rfl Zcr ?_
     generalize ordQ q H=O at o3 ⊢
     repeat' first|refine Kz ?_|intro _
     rename_i b3 b6 b8
     refine Zag [.cl b3 [.string ⟨(tN L).toArray⟩,.string ⟨(tD L).toArray⟩,.string ⟨(tN H).toArray⟩,.string ⟨(tD H).toArray⟩,.bool false] 179] [] (.take 0 (.take 1 (.take 2 (.take 3 (.take 4 (.take 5 (.take 6 (.take 7 (.all [(8,.take 9 (.take 10 (.all [(11,.take 12 (.take 13 (.all [(14,.take 15 (.done))])))])))]))))))))) ?_
     repeat' first|refine Kf ?_|intro _|constructor
     refine Ku rfl (Zcs (r:=L) (s:=H) fl fh) ?_
     repeat' first|refine Kf ?_|intro _|constructor
     refine Ku rfl Zcr ?_
     repeat' first|refine Kf ?_|intro _|constructor
     (refine Zac ?_)
     refine ⟨_,⟨?_,rfl⟩,Zaa⟩
     rw [Zjc];rfl
  ·have hv1:¬ v < 0:=by omega
   by_cases hq:L < q
   ·rw [if_pos ⟨hv0,hq⟩]
    have o3:=o1.2 hq
    cases o with
    | true =>
     repeat' first|refine Kz ?_|intro _
     refine Ks rfl (Zcs (r:=q) (s:=L) fq fl) ?_
     repeat' first|refine Kz ?_|intro _
     refine Kt rfl Zcr ?_
     repeat' first|refine Kz ?_|intro _
     rename_i b3 b6 b8
     show Tri _ _ _ _ _ (.cl b3 [.string ⟨(tN q).toArray⟩,.string ⟨(tD q).toArray⟩,.string ⟨(tN H).toArray⟩,.string ⟨(tD H).toArray⟩,.bool true] _::_) _
     refine Zag [.cl b3 [.string ⟨(tN q).toArray⟩,.string ⟨(tD q).toArray⟩,.string ⟨(tN H).toArray⟩,.string ⟨(tD H).toArray⟩,.bool true] 179] [] (.take 0 (.take 1 (.take 2 (.take 3 (.take 4 (.take 5 (.take 6 (.take 7 (.all [(8,.take 9 (.take 10 (.all [(11,.take 12 (.take 13 (.all [(14,.take 15 (.done))])))])))]))))))))) ?_
     repeat' first|refine Kf ?_|intro _|constructor
     (refine Zac ?_)
     refine ⟨_,⟨?_,rfl⟩,Zaa⟩
     rw [← Z26];rfl
    | false =>
     repeat' first|refine Kz ?_|intro _
     refine Ks rfl (Zcs (r:=q) (s:=L) fq fl) ?_
     repeat' first|refine Kz ?_|intro _
     refine Kt rfl Zcr ?_
     repeat' first|refine Kz ?_|intro _
     rename_i b3 b6 b8
     show Tri _ _ _ _ _ (.cl b3 [.string ⟨(tN q).toArray⟩,.string ⟨(tD q).toArray⟩,.string ⟨(tN H).toArray⟩,.string ⟨(tD H).toArray⟩,.bool false] _::_) _
     refine Zag [.cl b3 [.string ⟨(tN q).toArray⟩,.string ⟨(tD q).toArray⟩,.string ⟨(tN H).toArray⟩,.string ⟨(tD H).toArray⟩,.bool false] 179] [] (.take 0 (.take 1 (.take 2 (.take 3 (.take 4 (.take 5 (.take 6 (.take 7 (.all [(8,.take 9 (.take 10 (.all [(11,.take 12 (.take 13 (.all [(14,.take 15 (.done))])))])))]))))))))) ?_
     repeat' first|refine Kf ?_|intro _|constructor
     refine Ku rfl (Zcs (r:=q) (s:=H) fq fh) ?_
     repeat' first|refine Kf ?_|intro _|constructor
     refine Ku rfl Zcr ?_
     repeat' first|refine Kf ?_|intro _|constructor
     (refine Zac ?_)
     refine ⟨_,⟨?_,rfl⟩,Zaa⟩
     rw [Zjc];rfl
   ·rw [if_neg (fun h=>hq h.2),if_neg (fun h=>hv1 h.1)]
    have o3:¬ 0 < ordQ q L:=fun h=>hq (o1.1 h)
    cases o with
    | true =>
     repeat' first|refine Kz ?_|intro _
     refine Ks rfl (Zcs (r:=q) (s:=L) fq fl) ?_
     repeat' first|refine Kz ?_|intro _
     refine Kt rfl Zcr ?_
     generalize ordQ q L=O at o3 ⊢
     repeat' first|refine Kz ?_|intro _
     rename_i b3 b6 b8
     refine Zag [.cl b3 [.string ⟨(tN L).toArray⟩,.string ⟨(tD L).toArray⟩,.string ⟨(tN H).toArray⟩,.string ⟨(tD H).toArray⟩,.bool true] 179] [] (.take 0 (.take 1 (.take 2 (.take 3 (.take 4 (.take 5 (.take 6 (.take 7 (.all [(8,.take 9 (.take 10 (.all [(11,.take 12 (.take 13 (.all [(14,.take 15 (.done))])))])))]))))))))) ?_
     repeat' first|refine Kf ?_|intro _|constructor
     (refine Zac ?_)
     refine ⟨_,⟨?_,rfl⟩,Zaa⟩
     rw [← Z26];rfl
    | false =>
     repeat' first|refine Kz ?_|intro _
     refine Ks rfl (Zcs (r:=q) (s:=L) fq fl) ?_
     repeat' first|refine Kz ?_|intro _
     refine Kt rfl Zcr ?_
     generalize ordQ q L=O at o3 ⊢
     repeat' first|refine Kz ?_|intro _
     rename_i b3 b6 b8
     refine Zag [.cl b3 [.string ⟨(tN L).toArray⟩,.string ⟨(tD L).toArray⟩,.string ⟨(tN H).toArray⟩,.string ⟨(tD H).toArray⟩,.bool false] 179] [] (.take 0 (.take 1 (.take 2 (.take 3 (.take 4 (.take 5 (.take 6 (.take 7 (.all [(8,.take 9 (.take 10 (.all [(11,.take 12 (.take 13 (.all [(14,.take 15 (.done))])))])))]))))))))) ?_
     repeat' first|refine Kf ?_|intro _|constructor
     refine Ku rfl (Zcs (r:=L) (s:=H) fl fh) ?_
     repeat' first|refine Kf ?_|intro _|constructor
     refine Ku rfl Zcr ?_
     repeat' first|refine Kf ?_|intro _|constructor
     (refine Zac ?_)
     refine ⟨_,⟨?_,rfl⟩,Zaa⟩
     rw [Zjc];rfl
end Go.Proofs.YtbfgldlfciimiaaGreatDoor

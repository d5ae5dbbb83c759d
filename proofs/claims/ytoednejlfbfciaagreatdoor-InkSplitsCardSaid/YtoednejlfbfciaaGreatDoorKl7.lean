/- Walks: InkSplits. -/
import Derived.Test.YtoednejlfbfciaaGreatDoorKl1
import Derived.Test.YtoednejlfbfciaaGreatDoorKr4
import Derived.Test.YtoednejlfbfciaaGreatDoorKr6
set_option maxHeartbeats 1000000
namespace Go.Sx
open Go
theorem minN {x k:Nat}:(if (k:Int) < (x:Int) then (k:Int) else (x:Int))=((min x k:Nat):Int):=by split<;>omega
end Go.Sx
namespace Go.Proofs.YtoednejlfbfciaaGreatDoor
open Go Go.Sx
variable {w0:World} {As:List Ent}
set_option maxRecDepth 100000 in
set_option maxHeartbeats 8000000 in
theorem Zmq (ht:Tab w0) (he:ErrR w0) {kd lim kr rn o1 o2 o3 s1 s2 s3:Int} {tv pv rt rs:Value} {us tb:List Int} {ps:List Prt} {sg:List Seg} {ro ri:Bool} [RdIn As tv Int (cI .u16) us] [RdIn As pv Prt cPrt ps] [RdIn As rt Int (cI .i64) tb] [RdIn As rs Seg cSeg sg]
  (hk:0≤kd∧kd≤255) (hu:∀ u∈us,0≤u∧u≤65535) (hl0:us.length≤9223372036854775807) (hp:∀ p∈ps,p.ok) (hl1:ps.length≤9223372036854775807) (hl2:tb.length≤9223372036854775807) (hl3:sg.length≤9223372036854775807)
  (hm:0≤lim∧lim≤65535) (g1:0≤s1∧s1≤65535) (g2:0≤s2∧s2≤65535) (g3:0≤s3∧s3≤65535) :
  CallsS Tryz.prog w0 3 [.agg #[.int .i64 kr,rt,rs,.int .i64 rn],.agg #[.int .u8 kd,tv,pv,.bool ro,.bool ri],.int .u16 lim,.agg #[.int .i64 o1,.int .i64 o2,.int .i64 o3],.agg #[.int .u16 s1,.int .u16 s2,.int .u16 s3]] As fun u _=>u=.bool true:=by
 refine Zad tv fun p2 c2 e2=>Zad pv fun p3 c3 e3=>Zad rt fun p0 c0 e0=>Zad rs fun p1 c1 e1=>?_
 subst e0 e1 e2 e3
 obtain ⟨h0,hh0⟩:∃ h:Nat,h=min tb.length 20:=⟨_,rfl⟩
 obtain ⟨h1,hh1⟩:∃ h:Nat,h=min sg.length 6:=⟨_,rfl⟩
 have et:(tb.take h0).length=h0:=by rw [List.length_take];omega
 have es:(sg.take h1).length=h1:=by rw [List.length_take];omega
 haveI rT:RdIn As (.slice p0 h0 c0) Int (cI .i64) (tb.take h0):=by have:=Ziu (As:=As) (v:=.slice p0 tb.length c0) (c:=cI .i64) (xs:=tb) (k:=h0) (n:=1) rfl (by omega);rwa [Zl0] at this
 haveI rS:RdIn As (.slice p1 h1 c1) Seg cSeg (sg.take h1):=by have:=Ziu (As:=As) (v:=.slice p1 sg.length c1) (c:=cSeg) (xs:=sg) (k:=h1) (n:=6) rfl (by omega);rwa [Zl0] at this
 have hlr:(tb.take h0).length≤1000000000:=by omega
 have hsr:(sg.take h1).length≤1000000000:=by omega
 refine Zab Tryz.func3 rfl Tryz.ntmps3 rfl ?_
 repeat' first|refine Kz ?_|intro _
 rename_i b5 b6 b8 b9
 refine Ks rfl (Zje ht he) ?_
 repeat' first|refine Kz ?_|intro _
 rw [show (if (20:Int) < (tb.length:Int) then (20:Int) else (tb.length:Int))=((h0:Nat):Int) by rw [hh0];exact minN (k:=20)]
 refine TL.f rfl rfl (Zj2 (c:=cI .i64) (xs:=tb) (hi:=h0) rfl (Zdl (i:=h0) rfl) (by omega)) ?_
 repeat' first|refine Kz ?_|intro _
 rw [show (if (6:Int) < (sg.length:Int) then (6:Int) else (sg.length:Int))=((h1:Nat):Int) by rw [hh1];exact minN (k:=6)]
 refine TL.f rfl rfl (Zj2 (c:=cSeg) (xs:=sg) (hi:=h1) rfl (Zdl (i:=h1) rfl) (by omega)) ?_
 repeat' first|refine Kz ?_|intro _
 refine TL.callv rfl rfl rfl rfl (Zga (tv:=.slice p2 us.length c2) (pv:=.slice p3 ps.length c3) (us:=us) (ps:=ps) hk hu hl0 hp hl1) ?_
 rintro _ _ ⟨kv,p,n',c',q,m',d,tab,ss,rfl,t1,t2,rfl⟩
 have hl:tab.length≤1000000000:=by omega
 have hs:ss.length≤1000000000:=by omega
 have k1:0≤s1 % 10001∧s1 % 10001≤10000:=by omega
 have k2:0≤s2 % 10001∧s2 % 10001≤10000:=by omega
 have k3:0≤s3 % 10001∧s3 % 10001≤10000:=by omega
 repeat' first|refine Kz ?_|intro _
 rename_i b11 b12 b13
 generalize 10000+lim % 30001=n at *
 refine Tri.midB (fun e' As'=>e'=[(5,.pointer (some ⟨b5,0,none⟩)),(8,.pointer (some ⟨b8,0,none⟩)),(11,.pointer (some ⟨b11,0,none⟩)),(12,.pointer (some ⟨b12,0,none⟩)),(13,.pointer (some ⟨b13,0,none⟩))]∧As'=.cl b13 [.int .i64 (s1 % 10001),.int .i64 (s2 % 10001),.int .i64 (s3 % 10001)] 33::.cl b8 [.int .i64 o1,.int .i64 o2,.int .i64 o3] 33::.cl b5 [.int .i64 kr,.slice p0 h0 c0,.slice p1 h1 c1,.int .i64 rn] 27::.cl b11 [.int .i64 kv,.slice p n' c',.slice q m' d,.int .i64 n] 27::.cl b12 [.int .i64 kv,.slice p n' c',.slice q m' d,.int .i64 rn] 27::.ow (cI .i64) 3 (.slice p n' c') tab::.ow cSeg 59 (.slice q m' d) ss::As) ?_ ?_
 ·refine Zbh 4 ?_
  repeat' first|refine Kz ?_|intro _
  exact Post.cut _ _ ⟨rfl,rfl⟩ Zae Zaa
 rintro _ _ ⟨rfl,rfl⟩
 generalize s1 % 10001=c at *
 generalize s2 % 10001=m at *
 generalize s3 % 10001=y at *
 repeat' first|refine Kz ?_|intro _
 refine Zbh 4 ?_
 repeat' first|refine Kz ?_|intro _
 rename_i b17
 obtain ⟨re,hre⟩:∃ e,rulesE ⟨kv,tab,ss⟩ n=e:=⟨_,rfl⟩
 refine Zaj [.cl b17 [.int .i64 kv,.slice p n' c',.slice q m' d,.int .i64 n] 27] [] (.take 0 (.take 2 (.all [(1,.all [(3,.take 4 (.done))])]))) ?_
 repeat' first|refine Kf ?_|intro _|constructor
 refine T1.callv rfl rfl rfl rfl rfl (Zc0 (kv:=kv) (n:=n) (tv:=.slice p n' c') (tab:=tab) (sv:=.slice q m' d) (ss:=ss) hl hs) ?_
 rw [hre]
 rintro _ _ ⟨rfl,rfl⟩
 repeat' first|refine Kf ?_|intro _|constructor
 refine T1.callv rfl rfl rfl rfl rfl (Zd2 (kv:=kv) (n:=n) (tv:=.slice p n' c') (tab:=tab) (sv:=.slice q m' d) (ss:=ss) hl hs) ?_
 rw [hre]
 rintro _ _ ⟨rfl,rfl⟩
 repeat' first|refine Kf ?_|intro _|constructor
 refine Tri.midB (fun e' As'=>e'=[(73,.agg #[.int .i64 kv,.slice p n' c',.slice q m' d,.int .i64 n,.int .i64 kv,.slice p n' c',.slice q m' d,.int .i64 rn,.int .i64 kr,.slice p0 h0 c0,.slice p1 h1 c1,.int .i64 rn]),(74,.int .i64 0),(8,.pointer (some ⟨b8,0,none⟩)),(13,.pointer (some ⟨b13,0,none⟩))]∧As'=.cl b17 [.int .i64 kv,.slice p n' c',.slice q m' d,.int .i64 n] 27::.cl b13 [.int .i64 c,.int .i64 m,.int .i64 y] 33::.cl b8 [.int .i64 o1,.int .i64 o2,.int .i64 o3] 33::.ow (cI .i64) 3 (.slice p n' c') tab::.ow cSeg 59 (.slice q m' d) ss::As) ?_ ?_
 ·refine Zbh 3 ?_
  repeat' first|refine Kz ?_|intro _
  obtain ⟨w,hw⟩:∃ w,splitW c m y ⟨kv,tab,ss⟩ n=w:=⟨_,rfl⟩
  obtain ⟨⟨q1,q2,q3,q4⟩,hq⟩:∃ q,splitA w=q:=⟨_,rfl⟩
  obtain ⟨e,hE⟩:∃ e,splitE w=e:=⟨_,rfl⟩
  refine TL.callv rfl rfl rfl rfl (Zb2 (kv:=kv) (n:=n) (tv:=.slice p n' c') (tab:=tab) (sv:=.slice q m' d) (ss:=ss) (c:=c) (m:=m) (y:=y) ht he hl hs) ?_
  rw [hw,hq,hE]
  simp only [Ink.val]
  rintro _ _ ⟨rfl,rfl⟩
  repeat' first|refine Kz ?_|intro _
  refine TL.callv rfl rfl rfl rfl (Zdq (kv:=kv) (n:=n) (tv:=.slice p n' c') (tab:=tab) (sv:=.slice q m' d) (ss:=ss) (c:=c) (m:=m) (y:=y) hl hs) ?_
  rw [hw,hq,hE]
  simp only [Ink.val]
  rintro _ _ ⟨rfl,rfl⟩
  repeat' first|refine Kz ?_|intro _
  refine TL.f rfl rfl (Zc5 rfl rfl) ?_
  rw [decide_eq_true ⟨rfl,rfl,rfl,rfl⟩]
  repeat' first|refine Kz ?_|intro _
  clear hw hq hE
  repeat' first|refine Kz ?_|intro _
  obtain ⟨w,hw⟩:∃ w,splitW o1 o2 o3 ⟨kv,tab,ss⟩ n=w:=⟨_,rfl⟩
  obtain ⟨⟨q1,q2,q3,q4⟩,hq⟩:∃ q,splitA w=q:=⟨_,rfl⟩
  obtain ⟨e,hE⟩:∃ e,splitE w=e:=⟨_,rfl⟩
  refine TL.callv rfl rfl rfl rfl (Zb2 (kv:=kv) (n:=n) (tv:=.slice p n' c') (tab:=tab) (sv:=.slice q m' d) (ss:=ss) (c:=o1) (m:=o2) (y:=o3) ht he hl hs) ?_
  rw [hw,hq,hE]
  simp only [Ink.val]
  rintro _ _ ⟨rfl,rfl⟩
  repeat' first|refine Kz ?_|intro _
  refine TL.callv rfl rfl rfl rfl (Zdq (kv:=kv) (n:=n) (tv:=.slice p n' c') (tab:=tab) (sv:=.slice q m' d) (ss:=ss) (c:=o1) (m:=o2) (y:=o3) hl hs) ?_
  rw [hw,hq,hE]
  simp only [Ink.val]
  rintro _ _ ⟨rfl,rfl⟩
  repeat' first|refine Kz ?_|intro _
  refine TL.f rfl rfl (Zc5 rfl rfl) ?_
  rw [decide_eq_true ⟨rfl,rfl,rfl,rfl⟩]
  repeat' first|refine Kz ?_|intro _
  clear hw hq hE
  exact Post.cut _ _ ⟨rfl,rfl⟩ Zae Zaa
 rintro _ _ ⟨rfl,rfl⟩
 clear hre
 repeat' first|refine Kz ?_|intro _
 rename_i b17
 obtain ⟨re,hre⟩:∃ e,rulesE ⟨kv,tab,ss⟩ rn=e:=⟨_,rfl⟩
 refine Zaj [.cl b17 [.int .i64 kv,.slice p n' c',.slice q m' d,.int .i64 rn] 27] [] (.take 0 (.take 2 (.all [(1,.all [(3,.take 4 (.done))])]))) ?_
 repeat' first|refine Kf ?_|intro _|constructor
 refine T1.callv rfl rfl rfl rfl rfl (Zc0 (kv:=kv) (n:=rn) (tv:=.slice p n' c') (tab:=tab) (sv:=.slice q m' d) (ss:=ss) hl hs) ?_
 rw [hre]
 rintro _ _ ⟨rfl,rfl⟩
 repeat' first|refine Kf ?_|intro _|constructor
 refine T1.callv rfl rfl rfl rfl rfl (Zd2 (kv:=kv) (n:=rn) (tv:=.slice p n' c') (tab:=tab) (sv:=.slice q m' d) (ss:=ss) hl hs) ?_
 rw [hre]
 rintro _ _ ⟨rfl,rfl⟩
 repeat' first|refine Kf ?_|intro _|constructor
 refine Tri.midB (fun e' As'=>e'=[(73,.agg #[.int .i64 kv,.slice p n' c',.slice q m' d,.int .i64 n,.int .i64 kv,.slice p n' c',.slice q m' d,.int .i64 rn,.int .i64 kr,.slice p0 h0 c0,.slice p1 h1 c1,.int .i64 rn]),(74,.int .i64 1),(8,.pointer (some ⟨b8,0,none⟩)),(13,.pointer (some ⟨b13,0,none⟩))]∧As'=.cl b17 [.int .i64 kv,.slice p n' c',.slice q m' d,.int .i64 rn] 27::.cl b13 [.int .i64 c,.int .i64 m,.int .i64 y] 33::.cl b8 [.int .i64 o1,.int .i64 o2,.int .i64 o3] 33::.ow (cI .i64) 3 (.slice p n' c') tab::.ow cSeg 59 (.slice q m' d) ss::As) ?_ ?_
 ·refine Zbh 3 ?_
  repeat' first|refine Kz ?_|intro _
  obtain ⟨w,hw⟩:∃ w,splitW c m y ⟨kv,tab,ss⟩ rn=w:=⟨_,rfl⟩
  obtain ⟨⟨q1,q2,q3,q4⟩,hq⟩:∃ q,splitA w=q:=⟨_,rfl⟩
  obtain ⟨e,hE⟩:∃ e,splitE w=e:=⟨_,rfl⟩
  refine TL.callv rfl rfl rfl rfl (Zb2 (kv:=kv) (n:=rn) (tv:=.slice p n' c') (tab:=tab) (sv:=.slice q m' d) (ss:=ss) (c:=c) (m:=m) (y:=y) ht he hl hs) ?_
  rw [hw,hq,hE]
  simp only [Ink.val]
  rintro _ _ ⟨rfl,rfl⟩
  repeat' first|refine Kz ?_|intro _
  refine TL.callv rfl rfl rfl rfl (Zdq (kv:=kv) (n:=rn) (tv:=.slice p n' c') (tab:=tab) (sv:=.slice q m' d) (ss:=ss) (c:=c) (m:=m) (y:=y) hl hs) ?_
  rw [hw,hq,hE]
  simp only [Ink.val]
  rintro _ _ ⟨rfl,rfl⟩
  repeat' first|refine Kz ?_|intro _
  refine TL.f rfl rfl (Zc5 rfl rfl) ?_
  rw [decide_eq_true ⟨rfl,rfl,rfl,rfl⟩]
  repeat' first|refine Kz ?_|intro _
  clear hw hq hE
  repeat' first|refine Kz ?_|intro _
  obtain ⟨w,hw⟩:∃ w,splitW o1 o2 o3 ⟨kv,tab,ss⟩ rn=w:=⟨_,rfl⟩
  obtain ⟨⟨q1,q2,q3,q4⟩,hq⟩:∃ q,splitA w=q:=⟨_,rfl⟩
  obtain ⟨e,hE⟩:∃ e,splitE w=e:=⟨_,rfl⟩
  refine TL.callv rfl rfl rfl rfl (Zb2 (kv:=kv) (n:=rn) (tv:=.slice p n' c') (tab:=tab) (sv:=.slice q m' d) (ss:=ss) (c:=o1) (m:=o2) (y:=o3) ht he hl hs) ?_
  rw [hw,hq,hE]
  simp only [Ink.val]
  rintro _ _ ⟨rfl,rfl⟩
  repeat' first|refine Kz ?_|intro _
  refine TL.callv rfl rfl rfl rfl (Zdq (kv:=kv) (n:=rn) (tv:=.slice p n' c') (tab:=tab) (sv:=.slice q m' d) (ss:=ss) (c:=o1) (m:=o2) (y:=o3) hl hs) ?_
  rw [hw,hq,hE]
  simp only [Ink.val]
  rintro _ _ ⟨rfl,rfl⟩
  repeat' first|refine Kz ?_|intro _
  refine TL.f rfl rfl (Zc5 rfl rfl) ?_
  rw [decide_eq_true ⟨rfl,rfl,rfl,rfl⟩]
  repeat' first|refine Kz ?_|intro _
  clear hw hq hE
  exact Post.cut _ _ ⟨rfl,rfl⟩ Zae Zaa
 rintro _ _ ⟨rfl,rfl⟩
 clear hre
 repeat' first|refine Kz ?_|intro _
 rename_i b17
 obtain ⟨re,hre⟩:∃ e,rulesE ⟨kr,(tb.take h0),(sg.take h1)⟩ rn=e:=⟨_,rfl⟩
 refine Zaj [.cl b17 [.int .i64 kr,.slice p0 h0 c0,.slice p1 h1 c1,.int .i64 rn] 27] [] (.take 0 (.take 2 (.all [(1,.all [(3,.take 4 (.done))])]))) ?_
 repeat' first|refine Kf ?_|intro _|constructor
 refine T1.callv rfl rfl rfl rfl rfl (Zc0 (kv:=kr) (n:=rn) (tv:=.slice p0 h0 c0) (tab:=(tb.take h0)) (sv:=.slice p1 h1 c1) (ss:=(sg.take h1)) hlr hsr) ?_
 rw [hre]
 rintro _ _ ⟨rfl,rfl⟩
 repeat' first|refine Kf ?_|intro _|constructor
 refine T1.callv rfl rfl rfl rfl rfl (Zd2 (kv:=kr) (n:=rn) (tv:=.slice p0 h0 c0) (tab:=(tb.take h0)) (sv:=.slice p1 h1 c1) (ss:=(sg.take h1)) hlr hsr) ?_
 rw [hre]
 rintro _ _ ⟨rfl,rfl⟩
 repeat' first|refine Kf ?_|intro _|constructor
 refine Tri.midB (fun e' As'=>e'=[(73,.agg #[.int .i64 kv,.slice p n' c',.slice q m' d,.int .i64 n,.int .i64 kv,.slice p n' c',.slice q m' d,.int .i64 rn,.int .i64 kr,.slice p0 h0 c0,.slice p1 h1 c1,.int .i64 rn]),(74,.int .i64 2),(8,.pointer (some ⟨b8,0,none⟩)),(13,.pointer (some ⟨b13,0,none⟩))]∧As'=.cl b17 [.int .i64 kr,.slice p0 h0 c0,.slice p1 h1 c1,.int .i64 rn] 27::.cl b13 [.int .i64 c,.int .i64 m,.int .i64 y] 33::.cl b8 [.int .i64 o1,.int .i64 o2,.int .i64 o3] 33::.ow (cI .i64) 3 (.slice p n' c') tab::.ow cSeg 59 (.slice q m' d) ss::As) ?_ ?_
 ·refine Zbh 3 ?_
  repeat' first|refine Kz ?_|intro _
  obtain ⟨w,hw⟩:∃ w,splitW c m y ⟨kr,(tb.take h0),(sg.take h1)⟩ rn=w:=⟨_,rfl⟩
  obtain ⟨⟨q1,q2,q3,q4⟩,hq⟩:∃ q,splitA w=q:=⟨_,rfl⟩
  obtain ⟨e,hE⟩:∃ e,splitE w=e:=⟨_,rfl⟩
  refine TL.callv rfl rfl rfl rfl (Zb2 (kv:=kr) (n:=rn) (tv:=.slice p0 h0 c0) (tab:=(tb.take h0)) (sv:=.slice p1 h1 c1) (ss:=(sg.take h1)) (c:=c) (m:=m) (y:=y) ht he hlr hsr) ?_
  rw [hw,hq,hE]
  simp only [Ink.val]
  rintro _ _ ⟨rfl,rfl⟩
  repeat' first|refine Kz ?_|intro _
  refine TL.callv rfl rfl rfl rfl (Zdq (kv:=kr) (n:=rn) (tv:=.slice p0 h0 c0) (tab:=(tb.take h0)) (sv:=.slice p1 h1 c1) (ss:=(sg.take h1)) (c:=c) (m:=m) (y:=y) hlr hsr) ?_
  rw [hw,hq,hE]
  simp only [Ink.val]
  rintro _ _ ⟨rfl,rfl⟩
  repeat' first|refine Kz ?_|intro _
  refine TL.f rfl rfl (Zc5 rfl rfl) ?_
  rw [decide_eq_true ⟨rfl,rfl,rfl,rfl⟩]
  repeat' first|refine Kz ?_|intro _
  clear hw hq hE
  repeat' first|refine Kz ?_|intro _
  obtain ⟨w,hw⟩:∃ w,splitW o1 o2 o3 ⟨kr,(tb.take h0),(sg.take h1)⟩ rn=w:=⟨_,rfl⟩
  obtain ⟨⟨q1,q2,q3,q4⟩,hq⟩:∃ q,splitA w=q:=⟨_,rfl⟩
  obtain ⟨e,hE⟩:∃ e,splitE w=e:=⟨_,rfl⟩
  refine TL.callv rfl rfl rfl rfl (Zb2 (kv:=kr) (n:=rn) (tv:=.slice p0 h0 c0) (tab:=(tb.take h0)) (sv:=.slice p1 h1 c1) (ss:=(sg.take h1)) (c:=o1) (m:=o2) (y:=o3) ht he hlr hsr) ?_
  rw [hw,hq,hE]
  simp only [Ink.val]
  rintro _ _ ⟨rfl,rfl⟩
  repeat' first|refine Kz ?_|intro _
  refine TL.callv rfl rfl rfl rfl (Zdq (kv:=kr) (n:=rn) (tv:=.slice p0 h0 c0) (tab:=(tb.take h0)) (sv:=.slice p1 h1 c1) (ss:=(sg.take h1)) (c:=o1) (m:=o2) (y:=o3) hlr hsr) ?_
  rw [hw,hq,hE]
  simp only [Ink.val]
  rintro _ _ ⟨rfl,rfl⟩
  repeat' first|refine Kz ?_|intro _
  refine TL.f rfl rfl (Zc5 rfl rfl) ?_
  rw [decide_eq_true ⟨rfl,rfl,rfl,rfl⟩]
  repeat' first|refine Kz ?_|intro _
  clear hw hq hE
  exact Post.cut _ _ ⟨rfl,rfl⟩ Zae Zaa
 rintro _ _ ⟨rfl,rfl⟩
 clear hre
 repeat' first|refine Kz ?_|intro _
 (refine Zac ?_)
 exact ⟨_,rfl,Ents.refl _⟩
end Go.Proofs.YtoednejlfbfciaaGreatDoor

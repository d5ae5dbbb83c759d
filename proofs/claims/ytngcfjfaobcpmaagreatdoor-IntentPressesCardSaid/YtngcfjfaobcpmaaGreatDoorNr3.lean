/- Walks: the reference of the chapter on intents: Axis, Anchor, Clip, Compress. -/
import Derived.Test.YtngcfjfaobcpmaaGreatDoorNr1
import Derived.Test.YtngcfjfaobcpmaaGreatDoorNw1
set_option maxHeartbeats 1000000
namespace Go.Proofs.YtngcfjfaobcpmaaGreatDoor
open Go Go.Sx
variable {w0:World} {As:List Ent} {pv fv:Value} {pts fcs:List V3}
set_option maxRecDepth 100000 in
set_option maxHeartbeats 8000000 in
theorem Z67 [RdIn As fv V3 cV3 fcs] [RdIn As pv V3 cV3 pts]:CQ Tryz.prog w0 11 [.agg #[pv,fv]] As (.tuple #[.int .i64 (axisW pts fcs).1,.int .i64 (axisW pts fcs).2.1,.int .i64 (axisW pts fcs).2.2]):=by
 refine Zab Tryz.func11 rfl Tryz.ntmps11 rfl ?_
 unfold axisW
 repeat' first|refine Kz ?_|intro _
 refine Kt rfl (Zhy (pts:=pts) (fcs:=fcs)) ?_
 by_cases hfl:(flawM pts fcs).1=0
 ·rw [if_neg (fun h=>h hfl),show chkM pts fcs=0 from if_pos hfl]
  have hg:Sx.Good pts fcs:=Yga.1 hfl
  repeat' first|refine Kz ?_|intro _
  refine Ks rfl (Zjd (l:=0)) ?_
  repeat' first|refine Kz ?_|intro _
  refine Ks rfl (Zjd (l:=100000)) ?_
  repeat' first|refine Kz ?_|intro _
  refine Ks rfl (Zj2 (pv:=pv) (fv:=fv) (pts:=pts) (fcs:=fcs) (p:=blackV)) ?_
  by_cases hb:(sideW pts fcs blackV).1=0
  ·rw [hb]
   repeat' first|refine Kz ?_|intro _
   refine TL.callv rfl rfl rfl rfl (Znh (pv:=pv) (fv:=fv) (pts:=pts) (fcs:=fcs) (p:=blackV) (q:=whiteV) (y:=false)) ?_
   rw [Zc9 hg rfl rfl (by decide)]
   rintro _ _ ⟨rfl,rfl⟩
   cases ho:rayM metP pts fcs blackV whiteV false with
   | none =>
        rw [Zyo (by rw [Zre hb,ho];rfl)]
        show TL _ _ _ _ _ ((_,.tuple #[.agg #[.string ⟨#[]⟩,.string ⟨#[]⟩],.int .i64 0,.int .i64 4])::_) _ _
        repeat' first|refine Kz ?_|intro _
        exact Kv
   | some r =>
        obtain ⟨t,jt⟩:=r
        obtain ⟨t0,t1,ft⟩:=Zdz hg rfl rfl (by decide) ho
        show TL _ _ _ _ _ ((_,.tuple #[.agg #[.string ⟨(tN t).toArray⟩,.string ⟨(tD t).toArray⟩],.int .i64 (jt:Int),.int .i64 0])::_) _ _
        repeat' first|refine Kz ?_|intro _
        have hfl1:=Zgy t0 t1
        have hL:lowO pts fcs=some (-((-100000:Rat) * t).floor):=by rw [Zre hb,ho];rfl
        clear ho
        refine TL.callv rfl rfl rfl rfl (Zq0 (n:=-100000) (t:=t) (by decide) ft (by rw [show (((-100000:Int)):Rat)=-100000 from rfl];omega)) ?_
        rw [show (((-100000:Int)):Rat)=-100000 from rfl]
        rintro _ _ ⟨rfl,rfl⟩
        generalize ((-100000:Rat) * t).floor=W at *
        repeat' first|refine Kz ?_|intro _
        refine Ks rfl (Zj2 (pv:=pv) (fv:=fv) (pts:=pts) (fcs:=fcs) (p:=whiteV)) ?_
        by_cases hw:(sideW pts fcs whiteV).1=0
        ·rw [hw]
         repeat' first|refine Kz ?_|intro _
         refine TL.callv rfl rfl rfl rfl (Znh (pv:=pv) (fv:=fv) (pts:=pts) (fcs:=fcs) (p:=whiteV) (q:=blackV) (y:=false)) ?_
         rw [Zc9 hg rfl rfl (by decide)]
         rintro _ _ ⟨rfl,rfl⟩
         cases ho:rayM metP pts fcs whiteV blackV false with
         | none =>
          rw [Zkh (by rw [Zfr hw,ho];rfl)]
          show TL _ _ _ _ _ ((_,.tuple #[.agg #[.string ⟨#[]⟩,.string ⟨#[]⟩],.int .i64 0,.int .i64 4])::_) _ _
          repeat' first|refine Kz ?_|intro _
          exact Kv
         | some r =>
          obtain ⟨u,ju⟩:=r
          obtain ⟨u0,u1,fu⟩:=Zdz hg rfl rfl (by decide) ho
          show TL _ _ _ _ _ ((_,.tuple #[.agg #[.string ⟨(tN u).toArray⟩,.string ⟨(tD u).toArray⟩],.int .i64 (ju:Int),.int .i64 0])::_) _ _
          repeat' first|refine Kz ?_|intro _
          have hfl2:=Zgy u0 u1
          have hH:highO pts fcs=some (100000+((-100000:Rat) * u).floor):=by rw [Zfr hw,ho];rfl
          clear ho
          refine TL.callv rfl rfl rfl rfl (Zq0 (n:=-100000) (t:=u) (by decide) fu (by rw [show (((-100000:Int)):Rat)=-100000 from rfl];omega)) ?_
          rw [show (((-100000:Int)):Rat)=-100000 from rfl]
          rintro _ _ ⟨rfl,rfl⟩
          generalize ((-100000:Rat) * u).floor=H at *
          repeat' first|refine Kz ?_|intro _
          rw [Zfs hL hH]
          clear hL hH
          by_cases hlt:100000+H < -W
          ·rw [if_pos hlt]
           repeat' first|refine Kz ?_|intro _
           exact Kv
          ·rw [if_neg hlt]
           repeat' first|refine Kz ?_|intro _
           exact Kv
        ·have hH:=Zke hw
         generalize (sideW pts fcs whiteV).1=sw at *
         repeat' first|refine Kz ?_|intro _
         have h2:=Zfs hL hH
         rw [if_neg (by omega)] at h2
         rw [h2]
         clear h2 hL hH
         repeat' first|refine Kz ?_|intro _
         exact Kv
  ·have hL:=Zx7 hb
   generalize (sideW pts fcs blackV).1=sb at *
   repeat' first|refine Kz ?_|intro _
   refine Ks rfl (Zj2 (pv:=pv) (fv:=fv) (pts:=pts) (fcs:=fcs) (p:=whiteV)) ?_
   by_cases hw:(sideW pts fcs whiteV).1=0
   ·rw [hw]
    repeat' first|refine Kz ?_|intro _
    refine TL.callv rfl rfl rfl rfl (Znh (pv:=pv) (fv:=fv) (pts:=pts) (fcs:=fcs) (p:=whiteV) (q:=blackV) (y:=false)) ?_
    rw [Zc9 hg rfl rfl (by decide)]
    rintro _ _ ⟨rfl,rfl⟩
    cases ho:rayM metP pts fcs whiteV blackV false with
    | none =>
     rw [Zkh (by rw [Zfr hw,ho];rfl)]
     show TL _ _ _ _ _ ((_,.tuple #[.agg #[.string ⟨#[]⟩,.string ⟨#[]⟩],.int .i64 0,.int .i64 4])::_) _ _
     repeat' first|refine Kz ?_|intro _
     exact Kv
    | some r =>
     obtain ⟨u,ju⟩:=r
     obtain ⟨u0,u1,fu⟩:=Zdz hg rfl rfl (by decide) ho
     show TL _ _ _ _ _ ((_,.tuple #[.agg #[.string ⟨(tN u).toArray⟩,.string ⟨(tD u).toArray⟩],.int .i64 (ju:Int),.int .i64 0])::_) _ _
     repeat' first|refine Kz ?_|intro _
     have hfl2:=Zgy u0 u1
     have hH:highO pts fcs=some (100000+((-100000:Rat) * u).floor):=by rw [Zfr hw,ho];rfl
     clear ho
     refine TL.callv rfl rfl rfl rfl (Zq0 (n:=-100000) (t:=u) (by decide) fu (by rw [show (((-100000:Int)):Rat)=-100000 from rfl];omega)) ?_
     rw [show (((-100000:Int)):Rat)=-100000 from rfl]
     rintro _ _ ⟨rfl,rfl⟩
     generalize ((-100000:Rat) * u).floor=H at *
     repeat' first|refine Kz ?_|intro _
     have h2:=Zfs hL hH
     rw [if_neg (by omega)] at h2
     rw [h2]
     clear h2 hL hH
     repeat' first|refine Kz ?_|intro _
     exact Kv
   ·have hH:=Zke hw
    generalize (sideW pts fcs whiteV).1=sw at *
    repeat' first|refine Kz ?_|intro _
    have h2:=Zfs hL hH
    rw [if_neg (by omega)] at h2
    rw [h2]
    clear h2 hL hH
    repeat' first|refine Kz ?_|intro _
    exact Kv
 ·rw [if_pos hfl,show chkM pts fcs=350 from if_neg hfl]
  repeat' first|refine Kz ?_|intro _
  exact Kv
set_option maxRecDepth 100000 in
set_option maxHeartbeats 8000000 in
theorem Ze1 {p:V3} [RdIn As fv V3 cV3 fcs] [RdIn As pv V3 cV3 pts]:CQ Tryz.prog w0 14 [.agg #[pv,fv],p.val] As (.tuple #[(anchorW pts fcs p).1.val,.int .i64 (anchorW pts fcs p).2]):=by
 have hax:=fun (Bs:List Ent) [RdIn Bs fv V3 cV3 fcs] [RdIn Bs pv V3 cV3 pts]=>Z67 (w0:=w0) (As:=Bs) (pv:=pv) (fv:=fv) (pts:=pts) (fcs:=fcs)
 refine Zab Tryz.func14 rfl Tryz.ntmps14 rfl ?_
 show Tri _ _ _ _ (env0 0 [.agg #[pv,fv],.agg #[.int .i64 p.x,.int .i64 p.y,.int .i64 p.z]]) _ _
 unfold anchorW
 repeat' first|refine Kz ?_|intro _
 refine Ks rfl (Zjz (pv:=pv) (fv:=fv) (pts:=pts) (fcs:=fcs) (p:=p)) ?_
 by_cases hfl:(flawM pts fcs).1=0
 ·have hn0:¬ (flawM pts fcs).1≠0:=fun h=>h hfl
  rw [if_neg hn0,if_neg hn0]
  have hg:Sx.Good pts fcs:=Yga.1 hfl
  cases hp:isFar p with
  | true =>
   rw [if_pos rfl,if_pos rfl]
   repeat' first|refine Kz ?_|intro _
   exact Kv
  | false =>
   rw [if_neg (by decide),if_neg (by decide)]
   have bp:=Zb2 hp
   obtain ⟨p1,p2,p3,p4,p5,p6⟩:=bp
   unfold axisW at hax
   rw [if_neg (fun h=>h hfl)] at hax
   repeat' first|refine Kz ?_|intro _
   refine Ks rfl (hax _) ?_
   cases ho:extO pts fcs with
   | none =>
        rw [show anchorO pts fcs p=none by unfold anchorO;rw [ho];rfl]
        repeat' first|refine Kz ?_|intro _
        exact Kv
   | some r =>
        obtain ⟨l,h⟩:=r
        have hin:=Zyn hg ho
        have hfr:=Zla hg ho p
        have har:=Z0x (l:=l) (h:=h) hin.2.1 p
        have hA:anchorO pts fcs p=if (sideW pts fcs (anchorV l h p)).1=2 then some (anchorV l h p) else none:=by unfold anchorO;rw [ho];rfl
        rw [hA]
        clear hax ho hA har
        simp only []
        have e:(if l+(h - l) / 4 < (if p.x < h - (h - l) / 4 then p.x else h - (h - l) / 4) then (if p.x < h - (h - l) / 4 then p.x else h - (h - l) / 4) else l+(h - l) / 4)=(anchorV l h p).x:=by
         unfold anchorV
         simp only
         split<;>split<;>omega
        repeat' first|refine Kz ?_|intro _
        rw [e]
        clear e
        refine Ks rfl (Zjd (l:=(anchorV l h p).x)) ?_
        rw [show (⟨(anchorV l h p).x,0,0⟩:V3)=anchorV l h p from rfl]
        generalize anchorV l h p=c at *
        show TL _ _ _ _ _ ((_,.agg #[.int .i64 c.x,.int .i64 c.y,.int .i64 c.z])::_) _ _
        repeat' first|refine Kz ?_|intro _
        refine Ks rfl (Zj2 (pv:=pv) (fv:=fv) (pts:=pts) (fcs:=fcs) (p:=c)) ?_
        generalize (sideW pts fcs c).1=s at *
        by_cases hs:s=2
        ·rw [if_pos hs]
         repeat' first|refine Kz ?_|intro _
         exact Kv
        ·rw [if_neg hs]
         repeat' first|refine Kz ?_|intro _
         exact Kv
 ·rw [if_pos hfl,if_pos hfl]
  repeat' first|refine Kz ?_|intro _
  exact Kv
end Go.Proofs.YtngcfjfaobcpmaaGreatDoor
namespace Go.Sx
open Go
theorem Zww {P F:List V3} {p:V3} (h:(flawM P F).1≠0):anchorW P F p=(V3.zero,350):=if_pos h
theorem Zwv {P F:List V3} {p:V3} (h:(flawM P F).1=0) (hp:isFar p=true):anchorW P F p=(V3.zero,2):=by unfold anchorW;rw [if_neg (fun k=>k h),if_pos hp]
theorem Zlz {P F:List V3} {p:V3} (h:(flawM P F).1=0) (hp:isFar p=false) (ho:anchorO P F p=none):anchorW P F p=(V3.zero,4):=by unfold anchorW;rw [if_neg (fun k=>k h),hp,if_neg (by decide),ho]
theorem Zly {P F:List V3} {p c:V3} (h:(flawM P F).1=0) (hp:isFar p=false) (ho:anchorO P F p=some c):anchorW P F p=(c,0):=by unfold anchorW;rw [if_neg (fun k=>k h),hp,if_neg (by decide),ho]
end Go.Sx
namespace Go.Proofs.YtngcfjfaobcpmaaGreatDoor
open Go Go.Sx
variable {w0:World} {As:List Ent} {pv fv:Value} {pts fcs:List V3}
set_option maxRecDepth 100000 in
set_option maxHeartbeats 8000000 in
theorem Yf6 {p:V3} [RdIn As fv V3 cV3 fcs] [RdIn As pv V3 cV3 pts]:CQ Tryz.prog w0 17 [.agg #[pv,fv],p.val] As (triR (clipW pts fcs p)):=by
 refine Zab Tryz.func17 rfl Tryz.ntmps17 rfl ?_
 show Tri _ _ _ _ (env0 0 [.agg #[pv,fv],.agg #[.int .i64 p.x,.int .i64 p.y,.int .i64 p.z]]) _ _
 unfold clipW
 repeat' first|refine Kz ?_|intro _
 rename_i b2 b3 b4
 by_cases hfl:(flawM pts fcs).1=0
 ·rw [if_neg (fun h=>h hfl)]
  have hg:Sx.Good pts fcs:=Yga.1 hfl
  cases hp:isFar p with
  | true =>
   rw [if_pos rfl]
   refine TL.callv rfl rfl rfl rfl (Ze1 (pv:=pv) (fv:=fv) (pts:=pts) (fcs:=fcs) (p:=p)) ?_
   rw [Zwv hfl hp]
   rintro _ _ ⟨rfl,rfl⟩
   show TL _ _ _ _ _ ((_,.tuple #[.agg #[.int .i64 0,.int .i64 0,.int .i64 0],.int .i64 2])::_) _ _
   repeat' first|refine Kz ?_|intro _
   exact Kv
  | false =>
   rw [if_neg (by decide)]
   have hcl:=fun c=>Zmq (c:=c) hg hp
   have bp:=Zb2 hp
   obtain ⟨p1,p2,p3,p4,p5,p6⟩:=bp
   cases ho:anchorO pts fcs p with
   | none =>
        refine TL.callv rfl rfl rfl rfl (Ze1 (pv:=pv) (fv:=fv) (pts:=pts) (fcs:=fcs) (p:=p)) ?_
        rw [Zlz hfl hp ho]
        rintro _ _ ⟨rfl,rfl⟩
        show TL _ _ _ _ _ ((_,.tuple #[.agg #[.int .i64 0,.int .i64 0,.int .i64 0],.int .i64 4])::_) _ _
        repeat' first|refine Kz ?_|intro _
        exact Kv
   | some c =>
        obtain ⟨hc,hc2,_,_⟩:=Zcx hg ho
        simp only []
        refine TL.callv rfl rfl rfl rfl (Ze1 (pv:=pv) (fv:=fv) (pts:=pts) (fcs:=fcs) (p:=p)) ?_
        rw [Zly hfl hp ho]
        rintro _ _ ⟨rfl,rfl⟩
        show TL _ _ _ _ _ ((_,.tuple #[.agg #[.int .i64 c.x,.int .i64 c.y,.int .i64 c.z],.int .i64 0])::_) _ _
        repeat' first|refine Kz ?_|intro _
        refine Ks rfl (Zj2 (pv:=pv) (fv:=fv) (pts:=pts) (fcs:=fcs) (p:=p)) ?_
        by_cases hs:(sideW pts fcs p).1=0
        ·rw [if_neg (fun h=>h hs),hs]
         obtain ⟨hne,t,j,hr,hf,_⟩:=hcl c ho hs
         clear hcl
         repeat' first|refine Kz ?_|intro _
         refine TL.callv rfl rfl rfl rfl (Znh (pv:=pv) (fv:=fv) (pts:=pts) (fcs:=fcs) (p:=p) (q:=c) (y:=false)) ?_
         rw [Zc9 hg hp hc hne,hr]
         rintro _ _ ⟨rfl,rfl⟩
         show TL _ _ _ _ _ ((_,.tuple #[.agg #[.string ⟨(tN t).toArray⟩,.string ⟨(tD t).toArray⟩],.int .i64 (j:Int),.int .i64 0])::_) _ _
         repeat' first|refine Kz ?_|intro _
         refine Ks rfl (Z9j (c:=p) (p:=c) (s:=t) hp hc (hf.mono (by decide))) ?_
         repeat' first|refine Kz ?_|intro _
         exact Kv
        ·rw [if_pos hs]
         generalize (sideW pts fcs p).1=s at *
         clear hcl
         repeat' first|refine Kz ?_|intro _
         refine Zaf [.cl b3 [.int .i64 p.x,.int .i64 p.y,.int .i64 p.z] 33] [] (.take 0 (.take 1 (.take 3 (.take 4 (.take 6 (.take 7 (.all [(2,.all [(5,.all [(8,.take 9 (.all [(10,.take 11 (.done))]))])])]))))))) ?_
         repeat' first|refine Kf ?_|intro _|constructor
         refine Ku rfl (Zdp (n:=p.x) (by omega)) ?_
         repeat' first|refine Kf ?_|intro _|constructor
         refine Ku rfl (Zdp (n:=p.y) (by omega)) ?_
         repeat' first|refine Kf ?_|intro _|constructor
         refine Ku rfl (Zdp (n:=p.z) (by omega)) ?_
         repeat' first|refine Kf ?_|intro _|constructor
         exact Kv
 ·rw [if_pos hfl]
  refine TL.callv rfl rfl rfl rfl (Ze1 (pv:=pv) (fv:=fv) (pts:=pts) (fcs:=fcs) (p:=p)) ?_
  rw [Zww hfl]
  rintro _ _ ⟨rfl,rfl⟩
  show TL _ _ _ _ _ ((_,.tuple #[.agg #[.int .i64 0,.int .i64 0,.int .i64 0],.int .i64 350])::_) _ _
  repeat' first|refine Kz ?_|intro _
  exact Kv
set_option maxRecDepth 100000 in
set_option maxHeartbeats 8000000 in
theorem Z9i {p:V3} {k m:Int} [RdIn As fv V3 cV3 fcs] [RdIn As pv V3 cV3 pts]:CQ Tryz.prog w0 19 [.agg #[pv,fv],p.val,.int .i64 k,.int .i64 m] As (triR (compressW pts fcs p k m)):=by
 refine Zab Tryz.func19 rfl Tryz.ntmps19 rfl ?_
 show Tri _ _ _ _ (env0 0 [.agg #[pv,fv],.agg #[.int .i64 p.x,.int .i64 p.y,.int .i64 p.z],.int .i64 k,.int .i64 m]) _ _
 unfold compressW
 repeat' first|refine Kz ?_|intro _
 rename_i b4 b5 b8
 refine Ks rfl (Zjz (pv:=pv) (fv:=fv) (pts:=pts) (fcs:=fcs) (p:=p)) ?_
 by_cases hfl:(flawM pts fcs).1=0
 ·have hn0:¬ (flawM pts fcs).1≠0:=fun h=>h hfl
  rw [if_neg hn0,if_neg hn0]
  have hg:Sx.Good pts fcs:=Yga.1 hfl
  cases hp:isFar p with
  | true =>
   rw [if_pos rfl,if_pos rfl]
   repeat' first|refine Kz ?_|intro _
   exact Kv
  | false =>
   rw [if_neg (by decide),if_neg (by decide)]
   by_cases q0:k < 0
   ·rw [if_pos (by omega)]
    repeat' first|refine Kz ?_|intro _
    exact Kv
   by_cases q1:1000≤k
   ·rw [if_pos (by omega)]
    repeat' first|refine Kz ?_|intro _
    exact Kv
   by_cases q2:m≤1000
   ·rw [if_pos (by omega)]
    repeat' first|refine Kz ?_|intro _
    exact Kv
   by_cases q3:10000 < m
   ·rw [if_pos (by omega)]
    repeat' first|refine Kz ?_|intro _
    exact Kv
   rw [if_neg (by omega)]
   have hco:=fun c=>Zel (c:=c) (k:=k) (m:=m) hg hp (by omega) (by omega) (by omega) (by omega)
   have bp:=Zb2 hp
   obtain ⟨p1,p2,p3,p4,p5,p6⟩:=bp
   repeat' first|refine Kz ?_|intro _
   cases ho:anchorO pts fcs p with
   | none =>
        refine TL.callv rfl rfl rfl rfl (Ze1 (pv:=pv) (fv:=fv) (pts:=pts) (fcs:=fcs) (p:=p)) ?_
        rw [Zlz hfl hp ho]
        rintro _ _ ⟨rfl,rfl⟩
        show TL _ _ _ _ _ ((_,.tuple #[.agg #[.int .i64 0,.int .i64 0,.int .i64 0],.int .i64 4])::_) _ _
        repeat' first|refine Kz ?_|intro _
        exact Kv
   | some c =>
        obtain ⟨hc,hc2,_,_⟩:=Zcx hg ho
        simp only []
        refine TL.callv rfl rfl rfl rfl (Ze1 (pv:=pv) (fv:=fv) (pts:=pts) (fcs:=fcs) (p:=p)) ?_
        rw [Zly hfl hp ho]
        rintro _ _ ⟨rfl,rfl⟩
        show TL _ _ _ _ _ ((_,.tuple #[.agg #[.int .i64 c.x,.int .i64 c.y,.int .i64 c.z],.int .i64 0])::_) _ _
        repeat' first|refine Kz ?_|intro _
        rw [show decide ((⟨p.x,p.y,p.z⟩:V3)=⟨c.x,c.y,c.z⟩)=decide (p=c) from rfl]
        by_cases hpc:p=c
        ·rw [if_pos hpc,decide_eq_true hpc]
         clear hco
         repeat' first|refine Kz ?_|intro _
         refine Zaf [.cl b5 [.int .i64 p.x,.int .i64 p.y,.int .i64 p.z] 33] [] (.take 0 (.take 1 (.take 3 (.take 4 (.take 6 (.take 7 (.all [(2,.all [(5,.all [(8,.take 9 (.all [(10,.take 11 (.done))]))])])]))))))) ?_
         repeat' first|refine Kf ?_|intro _|constructor
         refine Ku rfl (Zdp (n:=p.x) (by omega)) ?_
         repeat' first|refine Kf ?_|intro _|constructor
         refine Ku rfl (Zdp (n:=p.y) (by omega)) ?_
         repeat' first|refine Kf ?_|intro _|constructor
         refine Ku rfl (Zdp (n:=p.z) (by omega)) ?_
         repeat' first|refine Kf ?_|intro _|constructor
         exact Kv
        ·rw [if_neg hpc,decide_eq_false hpc]
         obtain ⟨t,j,s,hr,hp0,hf,hs,s0,s1,st,hfs,_⟩:=hco c ho hpc
         clear hco
         rw [hr]
         simp only []
         rw [hs]
         repeat' first|refine Kz ?_|intro _
         refine TL.callv rfl rfl rfl rfl (Znh (pv:=pv) (fv:=fv) (pts:=pts) (fcs:=fcs) (p:=c) (q:=p) (y:=true)) ?_
         rw [Zc9 hg hc hp (fun e=>hpc e.symm),hr]
         rintro _ _ ⟨rfl,rfl⟩
         show TL _ _ _ _ _ ((_,.tuple #[.agg #[.string ⟨(tN t).toArray⟩,.string ⟨(tD t).toArray⟩],.int .i64 (j:Int),.int .i64 0])::_) _ _
         repeat' first|refine Kz ?_|intro _
         refine TL.callv rfl rfl rfl rfl (Z66 (k:=k) (m:=m) (t:=t) (by omega) (by omega) (by omega) (by omega) hf hp0) ?_
         rintro _ _ ⟨s',e,rfl,rfl⟩
         rw [hs] at e
         obtain rfl:=Sum.inr.inj e
         show TL _ _ _ _ _ ((_,.tuple #[.agg #[.string ⟨(tN s).toArray⟩,.string ⟨(tD s).toArray⟩],.int .i64 0])::_) _ _
         repeat' first|refine Kz ?_|intro _
         refine Ks rfl (Z9j (c:=c) (p:=p) (s:=s) hc hp hfs) ?_
         repeat' first|refine Kz ?_|intro _
         exact Kv
 ·rw [if_pos hfl,if_pos hfl]
  repeat' first|refine Kz ?_|intro _
  exact Kv
end Go.Proofs.YtngcfjfaobcpmaaGreatDoor

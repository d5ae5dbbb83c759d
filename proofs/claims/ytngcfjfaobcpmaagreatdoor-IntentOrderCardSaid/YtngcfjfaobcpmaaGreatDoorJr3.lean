/- Walks: the reference of the chapter on insides: points on a mesh, winding numbers, sides. -/
import Derived.Test.YtngcfjfaobcpmaaGreatDoorJr1
import Derived.Test.YtngcfjfaobcpmaaGreatDoorIx7
import Derived.Test.YtngcfjfaobcpmaaGreatDoorIj1
import Derived.Test.YtngcfjfaobcpmaaGreatDoorMr1
import Derived.Test.YtngcfjfaobcpmaaGreatDoorJq1
import Derived.Test.YtngcfjfaobcpmaaGreatDoorIx9
set_option maxHeartbeats 1000000
namespace Go.Sx
open Go
def onAtR (P:List V3) (p f:V3):Bool:=onT axR (relV P p f.x) (relV P p f.y) (relV P p f.z)
theorem Z7k {P F:List V3} {p:V3} (h:∀ j < F.length,∀ f,F[j]?=some f→onAtR P p f=false):onM axR P F p=false:=by
 unfold onM
 rw [List.any_eq_false]
 intro f hf
 obtain ⟨j,hj⟩:=List.getElem?_of_mem hf
 have hlt:=(List.getElem?_eq_some_iff.1 hj).1
 have:=h j hlt f hj
 unfold onAtR at this
 rw [this];simp
theorem Z7j {P F:List V3} {p f:V3} {j:Nat} (hj:F[j]?=some f) (h:onAtR P p f=true):onM axR P F p=true:=by
 unfold onM
 rw [List.any_eq_true]
 exact ⟨f,List.mem_of_getElem? hj,h⟩
theorem Yes {d a b c:V3} (h:det3 a b c=0):hit3 d a b c=0:=by
 unfold hit3 hitS
 exact if_neg fun k=>k.1 h
theorem Yet {d a b c:V3} (h:det3 a b c≠0):hit3 d a b c=if (det3 d b c).sign=(det3 a b c).sign∧(det3 a d c).sign=(det3 a b c).sign∧(det3 a b d).sign=(det3 a b c).sign then (det3 a b c).sign else 0:=by
 unfold hit3 hitS
 rw [cyc3 d c a,Z4m d a b]
 by_cases hc:(det3 d b c).sign=(det3 a b c).sign∧(det3 a d c).sign=(det3 a b c).sign∧(det3 a b d).sign=(det3 a b c).sign
 ·rw [if_pos hc,if_pos ⟨h,hc⟩]
 ·rw [if_neg hc,if_neg fun k=>hc k.2]
def wndR (P F:List V3) (p d:V3):Int × Bool:=if fineB P F p d=true then (windM P F p d,true) else (0,false)
end Go.Sx
namespace Go.Proofs.YtngcfjfaobcpmaaGreatDoor
open Go Go.Sx
variable {w0:World} {As:List Ent} {pv fv:Value} {pts fcs:List V3}
theorem Yd7 {p:V3} (hg:Sx.Good pts fcs) (hs:Seeable pts fcs p) [RdIn As fv V3 cV3 fcs] [RdIn As pv V3 cV3 pts] :
  CQ Tryz.prog w0 137 [.agg #[pv,fv],p.val] As (.bool (onM axR pts fcs p)):=by
 have hl:=hs.lenF
 refine Zab Tryz.func137 rfl Tryz.ntmps137 rfl ?_
 show Tri _ _ _ _ (env0 0 [.agg #[pv,fv],.agg #[.int .i64 p.x,.int .i64 p.y,.int .i64 p.z]]) _ _
 repeat' first|refine Kz ?_|intro _
 rename_i b2 b3
 refine Tri.loop (ι:=Nat) (fun k=>k≤fcs.length∧∀ j < k,∀ f,fcs[j]?=some f→onAtR pts p f=false) (fun k=>fcs.length - k)
  (fun k=>[(2,.pointer (some ⟨b2,0,none⟩)),(3,.pointer (some ⟨b3,0,none⟩)),(5,.int .i64 (k:Int))]) (fun k=>.cl b2 [pv,fv] 36::.cl b3 [.int .i64 p.x,.int .i64 p.y,.int .i64 p.z] 33::As) 0 ⟨by omega,fun j h=>by omega⟩ Zad Zaa ?_
 intro k ⟨hk,hI⟩
 repeat' first|refine Kz ?_|intro _
 (refine Kx (fun hc=>?_) fun hc=>?_)
 ·obtain ⟨f,hf⟩:∃ f,fcs[k]?=some f:=⟨_,List.getElem?_eq_getElem (by omega)⟩
  have hI':onAtR pts p f=false→∀ j < k+1,∀ f,fcs[j]?=some f→onAtR pts p f=false:=fun h j hj g hg=>by
   rcases Nat.lt_or_ge j k with h1|h1
   ·exact hI j h1 g hg
   ·rw [show j=k from by omega,hf] at hg
    rw [← Option.some.inj hg];exact h
  repeat' first|refine Kz ?_|intro _
  refine Ks rfl (Yav (k:=k) (p:=p) hf (hg.right (List.mem_of_getElem? hf)) hs) ?_
  rw [show onT axR (relV pts p f.x) (relV pts p f.y) (relV pts p f.z)=onAtR pts p f from rfl]
  cases hv:onAtR pts p f with
  | true =>
   repeat' first|refine Kz ?_|intro _
   (refine Zac ?_)
   exact ⟨_,⟨by rw [Z7j hf hv],rfl⟩,Zaa⟩
  | false =>
   repeat' first|refine Kz ?_|intro _
   exact Post.round (k+1) ⟨by omega,hI' hv⟩ (by omega) Zad Zaa
 ·repeat' first|refine Kz ?_|intro _
  (refine Zac ?_)
  exact ⟨_,⟨by rw [Z7k fun j hj=>hI j (by omega)],rfl⟩,Zaa⟩
set_option maxHeartbeats 2000000 in
theorem Z2f {p d:V3} (_hg:Sx.Good pts fcs) (hs:Seeable pts fcs p) (hd:d.in 3243601) [RdIn As fv V3 cV3 fcs] [RdIn As pv V3 cV3 pts] :
  CQ Tryz.prog w0 138 [.agg #[pv,fv],p.val,d.val] As (.tuple #[.int .i64 (wndR pts fcs p d).1,.bool (wndR pts fcs p d).2]):=by
 have hl:=hs.lenF
 refine Zab Tryz.func138 rfl Tryz.ntmps138 rfl ?_
 show Tri _ _ _ _ (env0 0 [.agg #[pv,fv],.agg #[.int .i64 p.x,.int .i64 p.y,.int .i64 p.z],.agg #[.int .i64 d.x,.int .i64 d.y,.int .i64 d.z]]) _ _
 repeat' first|refine Kz ?_|intro _
 rename_i b3 b4 b5
 refine Tri.loop (ι:=Nat) (fun k=>k≤fcs.length∧∀ j < k,∀ f,fcs[j]?=some f→fineAt pts p d f=true) (fun k=>fcs.length - k)
  (fun k=>[(3,.pointer (some ⟨b3,0,none⟩)),(4,.pointer (some ⟨b4,0,none⟩)),(5,.pointer (some ⟨b5,0,none⟩)),(8,.int .i64 (windM pts (fcs.take k) p d)),(9,.int .i64 (k:Int))])
  (fun k=>.cl b3 [pv,fv] 36::.cl b4 [.int .i64 p.x,.int .i64 p.y,.int .i64 p.z] 33::.cl b5 [.int .i64 d.x,.int .i64 d.y,.int .i64 d.z] 33::As) 0 ⟨by omega,fun j h=>by omega⟩ Zad Zaa ?_
 intro k ⟨hk,hI⟩
 have hin:=Zxh (P:=pts) (p:=p) (d:=d) (F:=fcs.take k)
 rw [List.length_take] at hin
 have hwk:=fun f=>Zo8 (P:=pts) (F:=fcs) (p:=p) (d:=d) (f:=f) (k:=k)
 have hwe:k=fcs.length→windM pts (fcs.take k) p d=windM pts fcs p d:=fun h=>by rw [h,List.take_length]
 generalize windM pts (fcs.take k) p d=n at *
 repeat' first|refine Kz ?_|intro _
 (refine Kx (fun hc=>?_) fun hc=>?_)
 ·obtain ⟨f,hf⟩:∃ f,fcs[k]?=some f:=⟨_,List.getElem?_eq_getElem (by omega)⟩
  obtain ⟨g1,g2,g3⟩:=hs.rel (List.mem_of_getElem? hf)
  have hI':fineAt pts p d f=true→∀ j < k+1,∀ f,fcs[j]?=some f→fineAt pts p d f=true:=fun h j hj g hg=>by
   rcases Nat.lt_or_ge j k with h1|h1
   ·exact hI j h1 g hg
   ·rw [show j=k from by omega,hf] at hg
    rw [← Option.some.inj hg];exact h
  have hnot:=Zyj (P:=pts) (d:=d) (p:=p) hf
  have hwk:=hwk f hf
  clear hI
  repeat' first|refine Kz ?_|intro _
  refine Ks rfl (Zgr (k:=k) (p:=p) hf hs) ?_
  rw [show hitF pts p d f=hit3 d (relV pts p f.x) (relV pts p f.y) (relV pts p f.z) from rfl] at hwk
  rw [show fineAt pts p d f=fineT d (relV pts p f.x) (relV pts p f.y) (relV pts p f.z) from rfl] at hI' hnot
  generalize relV pts p f.x=a at *
  generalize relV pts p f.y=b at *
  generalize relV pts p f.z=c at *
  show TL _ _ _ _ _ ((_,.tuple #[.agg #[.int .i64 a.x,.int .i64 a.y,.int .i64 a.z],.agg #[.int .i64 b.x,.int .i64 b.y,.int .i64 b.z],.agg #[.int .i64 c.x,.int .i64 c.y,.int .i64 c.z]])::_) _ _
  repeat' first|refine Kz ?_|intro _
  rename_i b10 b11 b12
  refine Ks rfl (Zhi (u:=a) (v:=b) (w:=c) g1 g2 g3 (by decide) (by decide) (by decide) (by decide) (by decide)) ?_
  repeat' first|refine Kz ?_|intro _
  refine Kt rfl Zfn ?_
  have k1:=fun Bs=>Zhi (w0:=w0) (As:=Bs) (u:=d) (v:=b) (w:=c) hd g2 g3 (by decide) (by decide) (by decide) (by decide) (by decide)
  have k2:=fun Bs=>Zhi (w0:=w0) (As:=Bs) (u:=a) (v:=d) (w:=c) g1 hd g3 (by decide) (by decide) (by decide) (by decide) (by decide)
  have k3:=fun Bs=>Zhi (w0:=w0) (As:=Bs) (u:=a) (v:=b) (w:=d) g1 g2 hd (by decide) (by decide) (by decide) (by decide) (by decide)
  have hs0:=Zc8 (det3 a b c)
  by_cases hD:det3 a b c=0
  ·rw [Yes hD,Int.add_zero] at hwk
   have hfi:fineT d a b c=true:=by unfold fineT;rw [decide_eq_true hD];rfl
   rw [hD]
   repeat' first|refine Kz ?_|intro _
   exact Post.round (k+1) ⟨by omega,hI' hfi⟩ (by omega) (by rw [hwk];(exact Zad)) Zaa
  ·rw [Yet hD] at hwk
   have hD2:(det3 a b c).sign≠0:=by rw [ne_eq,Int.sign_eq_zero_iff_zero];exact hD
   have hfi:fineT d a b c=(decide (det3 d b c≠0)&&decide (det3 a d c≠0)&&decide (det3 a b d≠0)):=by unfold fineT;rw [decide_eq_false hD];rfl
   rw [hfi] at hI' hnot
   have s1:(det3 d b c).sign=0↔det3 d b c=0:=Int.sign_eq_zero_iff_zero
   have s2:(det3 a d c).sign=0↔det3 a d c=0:=Int.sign_eq_zero_iff_zero
   have s3:(det3 a b d).sign=0↔det3 a b d=0:=Int.sign_eq_zero_iff_zero
   simp only [ne_eq,← s1,← s2,← s3] at hI' hnot
   generalize (det3 a b c).sign=s at *
   repeat' first|refine Kz ?_|intro _
   refine Zaf [.cl b5 [.int .i64 d.x,.int .i64 d.y,.int .i64 d.z] 33,.cl b10 [.int .i64 a.x,.int .i64 a.y,.int .i64 a.z] 33,.cl b11 [.int .i64 b.x,.int .i64 b.y,.int .i64 b.z] 33,.cl b12 [.int .i64 c.x,.int .i64 c.y,.int .i64 c.z] 33] [] (.take 0 (.take 1 (.take 2 (.take 5 (.take 6 (.take 7 (.take 10 (.take 11 (.take 12 (.all [(3,.all [(4,.all [(8,.all [(9,.all [(13,.all [(14,.take 15 (.take 16 (.take 17 (.done))))])])])])])])))))))))) ?_
   repeat' first|refine Kf ?_|intro _|constructor
   refine Ku rfl (k1 _) ?_
   repeat' first|refine Kf ?_|intro _|constructor
   refine Kw rfl Zfn ?_
   repeat' first|refine Kf ?_|intro _|constructor
   refine Ku rfl (k2 _) ?_
   repeat' first|refine Kf ?_|intro _|constructor
   refine Kw rfl Zfn ?_
   repeat' first|refine Kf ?_|intro _|constructor
   refine Ku rfl (k3 _) ?_
   repeat' first|refine Kf ?_|intro _|constructor
   refine Kw rfl Zfn ?_
   generalize (det3 d b c).sign=x at *
   generalize (det3 a d c).sign=y at *
   generalize (det3 a b d).sign=z at *
   clear s1 s2 s3 k1 k2 k3 g1 g2 g3 hfi
   repeat' first|refine Kf ?_|intro _|constructor
   by_cases h1:x=0
   ·have hno:=hnot (by rw [decide_eq_false (fun h=>h h1)];rfl)
    repeat' first|refine Kf ?_|intro _|constructor
    (refine Zac ?_)
    exact ⟨_,⟨by rw [wndR,if_neg (by rw [hno];decide)],rfl⟩,Zaa⟩
   by_cases h2:y=0
   ·have hno:=hnot (by rw [decide_eq_false (p:=¬ y=0) (fun h=>h h2),Bool.and_false];rfl)
    repeat' first|refine Kf ?_|intro _|constructor
    (refine Zac ?_)
    exact ⟨_,⟨by rw [wndR,if_neg (by rw [hno];decide)],rfl⟩,Zaa⟩
   by_cases h3:z=0
   ·have hno:=hnot (by rw [decide_eq_false (p:=¬ z=0) (fun h=>h h3),Bool.and_false])
    repeat' first|refine Kf ?_|intro _|constructor
    (refine Zac ?_)
    exact ⟨_,⟨by rw [wndR,if_neg (by rw [hno];decide)],rfl⟩,Zaa⟩
   have hI2:=hI' (by rw [decide_eq_true h1,decide_eq_true h2,decide_eq_true h3];rfl)
   by_cases q:x=s∧y=s∧z=s
   ·rw [if_pos q] at hwk
    obtain ⟨q1,q2,q3⟩:=q
    clear hI' hnot
    repeat' first|refine Kz ?_|intro _
    exact Post.round (k+1) ⟨by omega,hI2⟩ (by omega) (by rw [hwk];(exact Zad)) Zaa
   ·rw [if_neg q,Int.add_zero] at hwk
    clear hI' hnot
    by_cases q1:x=s
    ·by_cases q2:y=s
     ·have q3:¬ z=s:=fun h=>q ⟨q1,q2,h⟩
      repeat' first|refine Kz ?_|intro _
      exact Post.round (k+1) ⟨by omega,hI2⟩ (by omega) (by rw [hwk];(exact Zad)) Zaa
     ·repeat' first|refine Kz ?_|intro _
      exact Post.round (k+1) ⟨by omega,hI2⟩ (by omega) (by rw [hwk];(exact Zad)) Zaa
    ·repeat' first|refine Kz ?_|intro _
     exact Post.round (k+1) ⟨by omega,hI2⟩ (by omega) (by rw [hwk];(exact Zad)) Zaa
 ·have hfin:=Zyk (P:=pts) (F:=fcs) (p:=p) (d:=d) fun j hj=>hI j (by omega)
  have hwe:=hwe (by omega)
  repeat' first|refine Kz ?_|intro _
  (refine Zac ?_)
  exact ⟨_,⟨by rw [wndR,if_pos hfin,hwe],rfl⟩,Zaa⟩
theorem Zvi {p:V3} [RdIn As fv V3 cV3 fcs] [RdIn As pv V3 cV3 pts] :
  CQ Tryz.prog w0 86 [.agg #[pv,fv],p.val] As (.tuple #[.int .i64 (wndW pts fcs p).1,.int .i64 (wndW pts fcs p).2]):=by
 refine Zab Tryz.func86 rfl Tryz.ntmps86 rfl ?_
 show Tri _ _ _ _ (env0 0 [.agg #[pv,fv],.agg #[.int .i64 p.x,.int .i64 p.y,.int .i64 p.z]]) _ _
 repeat' first|refine Kz ?_|intro _
 rename_i b2 b3
 refine Ks rfl (Zng (pv:=pv) (fv:=fv) (pts:=pts) (fcs:=fcs) (p:=p)) ?_
 by_cases hfl:(flawM pts fcs).1=0
 ·have hg:Sx.Good pts fcs:=Yga.1 hfl
  cases hfar:isFar p with
  | true =>
   rw [show chkW pts fcs p=2 by unfold chkW;rw [hfl,hfar];rfl,show wndW pts fcs p=(0,2) by unfold wndW;rw [hfl,hfar];rfl]
   repeat' first|refine Kz ?_|intro _
   exact Kv
  | false =>
   rw [show chkW pts fcs p=0 by unfold chkW;rw [hfl,hfar];rfl,show wndW pts fcs p=if onM axP pts fcs p then (0,8) else (windN pts fcs p,0) by unfold wndW;rw [hfl,hfar];rfl]
   have hs:=hg.see hfar
   repeat' first|refine Kz ?_|intro _
   refine Ks rfl (Yd7 (pv:=pv) (fv:=fv) (p:=p) hg hs) ?_
   rw [Yec hg]
   cases hon:onM axR pts fcs p with
   | true =>
        rw [if_pos rfl]
        repeat' first|refine Kz ?_|intro _
        exact Kv
   | false =>
        rw [if_neg (by decide)]
        obtain ⟨T,hT,h1T,hT1,hfT⟩:=Zbz hg p
        have hmin:=Ztt hT
        have hwN:windN pts fcs p=windM pts fcs p (dirT T):=by unfold windN;rw [hT]
        have hfB:=Yez.2 hfT
        repeat' first|refine Kz ?_|intro _
        refine Tri.loop (ι:=Nat) (fun t=>1≤t∧t≤T) (fun t=>T - t)
         (fun t=>[(2,.pointer (some ⟨b2,0,none⟩)),(3,.pointer (some ⟨b3,0,none⟩)),(7,.int .i64 (t:Int))]) (fun t=>.cl b2 [pv,fv] 36::.cl b3 [.int .i64 p.x,.int .i64 p.y,.int .i64 p.z] 33::As) 1 ⟨by omega,by omega⟩ Zad Zaa ?_
        intro t ⟨ht1,htT⟩
        obtain ⟨hdi,hq1,hq2⟩:=Z4j (t:=t) (by omega)
        repeat' first|refine Kz ?_|intro _
        refine Ks rfl (Z2f (pv:=pv) (fv:=fv) (p:=p) (d:=dirT t) hg hs hdi) ?_
        by_cases htt:t=T
        ·rw [wndR,if_pos (by rw [htt];exact hfB),htt,hwN]
         generalize windM pts fcs p (dirT T)=n
         repeat' first|refine Kz ?_|intro _
         exact Kv
        ·rw [wndR,if_neg (by rw [hmin t ht1 (by omega)];decide)]
         repeat' first|refine Kz ?_|intro _
         exact Post.round (t+1) ⟨by omega,by omega⟩ (by omega) Zad Zaa
 ·rw [show chkW pts fcs p=350 from if_pos hfl,show wndW pts fcs p=(0,350) from if_pos hfl]
  repeat' first|refine Kz ?_|intro _
  exact Kv
theorem Zj2 {p:V3} [RdIn As fv V3 cV3 fcs] [RdIn As pv V3 cV3 pts] :
  CQ Tryz.prog w0 36 [.agg #[pv,fv],p.val] As (.tuple #[.int .i64 (sideW pts fcs p).1,.int .i64 (sideW pts fcs p).2]):=by
 refine Zab Tryz.func36 rfl Tryz.ntmps36 rfl ?_
 show Tri _ _ _ _ (env0 0 [.agg #[pv,fv],.agg #[.int .i64 p.x,.int .i64 p.y,.int .i64 p.z]]) _ _
 repeat' first|refine Kz ?_|intro _
 refine Ks rfl (Zvi (pv:=pv) (fv:=fv) (pts:=pts) (fcs:=fcs) (p:=p)) ?_
 by_cases hfl:(flawM pts fcs).1=0
 ·cases hfar:isFar p with
  | true =>
   rw [show sideW pts fcs p=(0,2) by unfold sideW;rw [hfl,hfar];rfl,show wndW pts fcs p=(0,2) by unfold wndW;rw [hfl,hfar];rfl]
   repeat' first|refine Kz ?_|intro _
   exact Kv
  | false =>
   cases hon:onM axP pts fcs p with
   | true =>
        rw [show sideW pts fcs p=(1,0) by unfold sideW;rw [hfl,hfar,hon];rfl,show wndW pts fcs p=(0,8) by unfold wndW;rw [hfl,hfar,hon];rfl]
        repeat' first|refine Kz ?_|intro _
        exact Kv
   | false =>
        rw [show sideW pts fcs p=if windN pts fcs p≠0 then (2,0) else (0,0) by unfold sideW;rw [hfl,hfar,hon];rfl,show wndW pts fcs p=(windN pts fcs p,0) by unfold wndW;rw [hfl,hfar,hon];rfl]
        generalize windN pts fcs p=n
        by_cases hw:n=0
        ·rw [if_neg (fun h=>h hw)]
         repeat' first|refine Kz ?_|intro _
         exact Kv
        ·rw [if_pos hw]
         repeat' first|refine Kz ?_|intro _
         exact Kv
 ·rw [show sideW pts fcs p=(0,350) from if_pos hfl,show wndW pts fcs p=(0,350) from if_pos hfl]
  repeat' first|refine Kz ?_|intro _
  exact Kv
end Go.Proofs.YtngcfjfaobcpmaaGreatDoor
namespace Go.Proofs.YtngcfjfaobcpmaaGreatDoor
open Go Go.Sx
variable {w0:World} {As:List Ent} {pv fv:Value} {pts fcs:List V3}
end Go.Proofs.YtngcfjfaobcpmaaGreatDoor
namespace Go.Proofs.YtngcfjfaobcpmaaGreatDoor
open Go Go.Sx
variable {w0:World} {As:List Ent}
set_option maxRecDepth 100000 in
set_option maxHeartbeats 8000000 in
theorem Z2w {a b c n v:V3} {k:Nat} (hk:k < 3) {y:Bool} (ha:a.in 400000) (hb:b.in 400000) (hc:c.in 400000) (hv:v.in 400000) :
  CallsS Tryz.prog w0 145 [.agg #[.int .i64 a.x,.int .i64 a.y,.int .i64 a.z,.int .i64 b.x,.int .i64 b.y,.int .i64 b.z,.int .i64 c.x,.int .i64 c.y,.int .i64 c.z],.int .i64 (k:Int),.int .i64 (n.proj k).sign,v.val,.bool y] As (MetR As (alongM (path0 y) k n a b c v)):=by
 have hσ:=Zc8 (n.proj k)
 have s1:=Zcl hb ha
 have kx1:=fun Bs=>Zcv (w0:=w0) (As:=Bs) s1 hv (by decide) (by decide) (by decide)
 have kw1:=fun Bs=>Zcv (w0:=w0) (As:=Bs) s1 ha (by decide) (by decide) (by decide)
 have nx1:=Zbv (by decide) (by decide) s1 hv
 have nw1:=Zbv (by decide) (by decide) s1 ha
 have ks1:=fun Bs=>Zcb (w0:=w0) (As:=Bs) (p:=b) (q:=a) hb ha (by decide)
 have eu1:hfU k n a b=-((n.proj k).sign * ((b.sub a).cross a).proj k):=by
  rw [Zjo];show (n.proj k).sign * (a.cross b).proj k=_;grind
 have ev1:hfV k n a b v=(n.proj k).sign * ((b.sub a).cross v).proj k:=rfl
 have s2:=Zcl hc hb
 have kx2:=fun Bs=>Zcv (w0:=w0) (As:=Bs) s2 hv (by decide) (by decide) (by decide)
 have kw2:=fun Bs=>Zcv (w0:=w0) (As:=Bs) s2 hb (by decide) (by decide) (by decide)
 have nx2:=Zbv (by decide) (by decide) s2 hv
 have nw2:=Zbv (by decide) (by decide) s2 hb
 have ks2:=fun Bs=>Zcb (w0:=w0) (As:=Bs) (p:=c) (q:=b) hc hb (by decide)
 have eu2:hfU k n b c=-((n.proj k).sign * ((c.sub b).cross b).proj k):=by
  rw [Zjo];show (n.proj k).sign * (b.cross c).proj k=_;grind
 have ev2:hfV k n b c v=(n.proj k).sign * ((c.sub b).cross v).proj k:=rfl
 have s3:=Zcl ha hc
 have kx3:=fun Bs=>Zcv (w0:=w0) (As:=Bs) s3 hv (by decide) (by decide) (by decide)
 have kw3:=fun Bs=>Zcv (w0:=w0) (As:=Bs) s3 hc (by decide) (by decide) (by decide)
 have nx3:=Zbv (by decide) (by decide) s3 hv
 have nw3:=Zbv (by decide) (by decide) s3 hc
 have ks3:=fun Bs=>Zcb (w0:=w0) (As:=Bs) (p:=a) (q:=c) ha hc (by decide)
 have eu3:hfU k n c a=-((n.proj k).sign * ((a.sub c).cross c).proj k):=by
  rw [Zjo];show (n.proj k).sign * (c.cross a).proj k=_;grind
 have ev3:hfV k n c a v=(n.proj k).sign * ((a.sub c).cross v).proj k:=rfl
 have hal:alongM (path0 y) k n a b c v=((cut3R (path0 y) k n a b c v).bind fun t=>if t.ne then some t else none).map (·.low):=rfl
 unfold cut3R at hal
 rw [eu1,eu2,eu3,ev1,ev2,ev3] at hal
 rw [hal]
 clear hal eu1 eu2 eu3 ev1 ev2 ev3
 generalize (b.sub a).cross v=X1 at *
 generalize (b.sub a).cross a=W1 at *
 generalize b.sub a=E1 at *
 generalize (c.sub b).cross v=X2 at *
 generalize (c.sub b).cross b=W2 at *
 generalize c.sub b=E2 at *
 generalize (a.sub c).cross v=X3 at *
 generalize (a.sub c).cross c=W3 at *
 generalize a.sub c=E3 at *
 generalize (n.proj k).sign=σ at *
 have mx1:=Zbw hσ (Zk3 nx1 k)
 have mw1:=Zbw hσ (Zk3 nw1 k)
 have px1:=Zkx X1 hk
 have pw1:=Zkx W1 hk
 have mx2:=Zbw hσ (Zk3 nx2 k)
 have mw2:=Zbw hσ (Zk3 nw2 k)
 have px2:=Zkx X2 hk
 have pw2:=Zkx W2 hk
 have mx3:=Zbw hσ (Zk3 nx3 k)
 have mw3:=Zbw hσ (Zk3 nw3 k)
 have px3:=Zkx X3 hk
 have pw3:=Zkx W3 hk
 clear nx1 nx2 nx3 nw1 nw2 nw3
 have hkb:Nat.blt k 3=true:=by rw [Nat.blt_eq];exact hk
 have hq0:qI 0 1=0:=by decide +kernel
 have hq1:qI 1 1=1:=by decide +kernel
 refine Zab Tryz.func145 rfl Tryz.ntmps145 rfl ?_
 show Tri _ _ _ _ (env0 0 [.agg #[.int .i64 a.x,.int .i64 a.y,.int .i64 a.z,.int .i64 b.x,.int .i64 b.y,.int .i64 b.z,.int .i64 c.x,.int .i64 c.y,.int .i64 c.z],.int .i64 (k:Int),.int .i64 σ,.agg #[.int .i64 v.x,.int .i64 v.y,.int .i64 v.z],.bool y]) _ _
 repeat' first|refine Kz ?_|intro _
 refine TL.callv rfl rfl rfl rfl (Za0 (n:=0) (d:=1) (by decide) (by decide) (by decide)) ?_
 rw [hq0]
 rintro _ _ ⟨rfl,rfl⟩
 repeat' first|refine Kz ?_|intro _
 refine TL.callv rfl rfl rfl rfl (Za0 (n:=1) (d:=1) (by decide) (by decide) (by decide)) ?_
 rw [hq1]
 rintro _ _ ⟨rfl,rfl⟩
 repeat' first|refine Kz ?_|intro _
 rename_i b5 b8 b10 b12 b14
 refine Tri.loop (ι:=Nat × Spn) (fun x=>(Fit 19 x.2.low∧Fit 19 x.2.high)∧((x.1=0∧some (path0 y)=some x.2)∨(x.1=1∧cutR (path0 y) (-(σ * W1.proj k)) (σ * X1.proj k)=some x.2)∨(x.1=2∧((cutR (path0 y) (-(σ * W1.proj k)) (σ * X1.proj k)).bind fun s=>cutR s (-(σ * W2.proj k)) (σ * X2.proj k))=some x.2)∨(x.1=3∧(((cutR (path0 y) (-(σ * W1.proj k)) (σ * X1.proj k)).bind fun s=>cutR s (-(σ * W2.proj k)) (σ * X2.proj k)).bind fun s=>cutR s (-(σ * W3.proj k)) (σ * X3.proj k))=some x.2))) (fun x=>3 - x.1)
  (fun x=>[(1,.int .i64 (k:Int)),(2,.int .i64 σ),(5,.pointer (some ⟨b5,0,none⟩)),(8,.pointer (some ⟨b8,0,none⟩)),(10,.pointer (some ⟨b10,0,none⟩)),(12,.pointer (some ⟨b12,0,none⟩)),(14,.pointer (some ⟨b14,0,none⟩)),(16,.bool (!x.2.opn)),(17,.int .i64 (x.1:Int))])
  (fun x=>.cl b14 [.string ⟨(tN x.2.high).toArray⟩,.string ⟨(tD x.2.high).toArray⟩] 52::.cl b12 [.string ⟨(tN x.2.low).toArray⟩,.string ⟨(tD x.2.low).toArray⟩] 52::.cl b10 [.string ⟨#[]⟩,.string ⟨#[]⟩] 52::.cl b8 [.int .i64 v.x,.int .i64 v.y,.int .i64 v.z] 33::.cl b5 [.int .i64 a.x,.int .i64 a.y,.int .i64 a.z,.int .i64 b.x,.int .i64 b.y,.int .i64 b.z,.int .i64 c.x,.int .i64 c.y,.int .i64 c.z] 49::As) (0,path0 y) ⟨⟨fit0,fit1⟩,.inl ⟨rfl,rfl⟩⟩ Zad (by show Ents _ (.cl b14 [.string ⟨(tN 1).toArray⟩,.string ⟨(tD 1).toArray⟩] 52::.cl b12 [.string ⟨(tN 0).toArray⟩,.string ⟨(tD 0).toArray⟩] 52::.cl b10 [.string ⟨#[]⟩,.string ⟨#[]⟩] 52::.cl b8 [.int .i64 v.x,.int .i64 v.y,.int .i64 v.z] 33::.cl b5 [.int .i64 a.x,.int .i64 a.y,.int .i64 a.z,.int .i64 b.x,.int .i64 b.y,.int .i64 b.z,.int .i64 c.x,.int .i64 c.y,.int .i64 c.z] 49::As);(exact Zaa)) ?_
 rintro ⟨i,lo,hi,op⟩ ⟨⟨hlo,hhi⟩,hI⟩
 simp only at hlo hhi hI
 rcases hI with ⟨rfl,hI⟩|⟨rfl,hI⟩|⟨rfl,hI⟩|⟨rfl,hI⟩
 ·show Tri _ _ _ _ [(1,.int .i64 (k:Int)),(2,.int .i64 σ),(5,.pointer (some ⟨b5,0,none⟩)),(8,.pointer (some ⟨b8,0,none⟩)),(10,.pointer (some ⟨b10,0,none⟩)),(12,.pointer (some ⟨b12,0,none⟩)),(14,.pointer (some ⟨b14,0,none⟩)),(16,.bool (!op)),(17,.int .i64 0)] (.cl b14 [.string ⟨(tN hi).toArray⟩,.string ⟨(tD hi).toArray⟩] 52::.cl b12 [.string ⟨(tN lo).toArray⟩,.string ⟨(tD lo).toArray⟩] 52::.cl b10 [.string ⟨#[]⟩,.string ⟨#[]⟩] 52::.cl b8 [.int .i64 v.x,.int .i64 v.y,.int .i64 v.z] 33::.cl b5 [.int .i64 a.x,.int .i64 a.y,.int .i64 a.z,.int .i64 b.x,.int .i64 b.y,.int .i64 b.z,.int .i64 c.x,.int .i64 c.y,.int .i64 c.z] 49::As) _
  repeat' first|refine Kz ?_|intro _
  rename_i b18
  refine Tri.mid (fun e' As'=>∃ b19,e'=[(1,.int .i64 (k:Int)),(2,.int .i64 σ),(5,.pointer (some ⟨b5,0,none⟩)),(8,.pointer (some ⟨b8,0,none⟩)),(10,.pointer (some ⟨b10,0,none⟩)),(12,.pointer (some ⟨b12,0,none⟩)),(14,.pointer (some ⟨b14,0,none⟩)),(16,.bool (!op)),(17,.int .i64 0),(18,.pointer (some ⟨b18,0,none⟩)),(19,.pointer (some ⟨b19,0,none⟩))]∧As'=.cl b19 [.int .i64 E1.x,.int .i64 E1.y,.int .i64 E1.z] 33::.cl b18 [.int .i64 a.x,.int .i64 a.y,.int .i64 a.z] 33::.cl b14 [.string ⟨(tN hi).toArray⟩,.string ⟨(tD hi).toArray⟩] 52::.cl b12 [.string ⟨(tN lo).toArray⟩,.string ⟨(tD lo).toArray⟩] 52::.cl b10 [.string ⟨#[]⟩,.string ⟨#[]⟩] 52::.cl b8 [.int .i64 v.x,.int .i64 v.y,.int .i64 v.z] 33::.cl b5 [.int .i64 a.x,.int .i64 a.y,.int .i64 a.z,.int .i64 b.x,.int .i64 b.y,.int .i64 b.z,.int .i64 c.x,.int .i64 c.y,.int .i64 c.z] 49::As) ?_ ?_
  ·refine Zaf [.cl b5 [.int .i64 a.x,.int .i64 a.y,.int .i64 a.z,.int .i64 b.x,.int .i64 b.y,.int .i64 b.z,.int .i64 c.x,.int .i64 c.y,.int .i64 c.z] 49,.cl b18 [.int .i64 a.x,.int .i64 a.y,.int .i64 a.z] 33] [] (.take 0 (.take 1 (.take 2 (.take 3 (.take 4 (.take 5 (.all [(6,.all [(7,.all [(8,.done)])]),(7,.all [(6,.all [(8,.done)])])]))))))) ?_
   repeat' first|refine Kf ?_|intro _|constructor
   repeat' (refine T1.callv rfl rfl rfl rfl rfl (ks1 _) ?_;rintro _ _ ⟨rfl,rfl⟩;(repeat' first|refine Kf ?_|intro _|constructor))
   all_goals exact Post.cut _ _ ⟨_,rfl,rfl⟩ Zad Zaa
  rintro _ _ ⟨b19,rfl,rfl⟩
  repeat' first|refine Kz ?_|intro _
  refine Ks rfl (kx1 _) ?_
  show TL _ _ _ _ _ ((_,.agg #[.int .i64 X1.x,.int .i64 X1.y,.int .i64 X1.z])::_) _ _
  repeat' first|refine Kz ?_|intro _
  refine TL.f rfl rfl (Zeb rfl rfl rfl hkb px1) ?_
  repeat' first|refine Kz ?_|intro _
  refine Ks rfl (kw1 _) ?_
  show TL _ _ _ _ _ ((_,.agg #[.int .i64 W1.x,.int .i64 W1.y,.int .i64 W1.z])::_) _ _
  repeat' first|refine Kz ?_|intro _
  refine TL.f rfl rfl (Zeb rfl rfl rfl hkb pw1) ?_
  repeat' first|refine Kz ?_|intro _
  clear kx1 kx2 kx3 kw1 kw2 kw3 ks1 ks2 ks3 px1 px2 px3 pw1 pw2 pw3
  generalize σ * X1.proj k=V at *
  generalize σ * W1.proj k=W at *
  rcases Int.lt_trichotomy V 0 with h0|h0|h0
  ·have hft:Fit 19 (qI W V):=Zet (by omega) (by omega) (by omega)
   repeat' first|refine Kz ?_|intro _
   refine Ks rfl (Za0 (n:=W) (d:=V) (by omega) (by omega) (by omega)) ?_
   repeat' first|refine Kz ?_|intro _
   cases op with
   | true =>
        repeat' first|refine Kz ?_|intro _
        exact Post.round (1,⟨lo,qI W V,false⟩) ⟨⟨hlo,hft⟩,.inr (.inl ⟨rfl,(by rw [show path0 y=_ from Option.some.inj hI];exact Zge h0 (.inl rfl))⟩)⟩ (by simp only;omega) Zad Zaa
   | false =>
        repeat' first|refine Kz ?_|intro _
        refine Ks rfl (Zdr hft hhi) ?_
        by_cases hl:qI W V < hi
        ·rw [decide_eq_true hl]
         repeat' first|refine Kz ?_|intro _
         exact Post.round (1,⟨lo,qI W V,false⟩) ⟨⟨hlo,hft⟩,.inr (.inl ⟨rfl,(by rw [show path0 y=_ from Option.some.inj hI];exact Zge h0 (.inr hl))⟩)⟩ (by simp only;omega) Zad Zaa
        ·rw [decide_eq_false hl]
         repeat' first|refine Kz ?_|intro _
         exact Post.round (1,⟨lo,hi,false⟩) ⟨⟨hlo,hhi⟩,.inr (.inl ⟨rfl,(by rw [show path0 y=_ from Option.some.inj hI];exact Zk9 h0 (by rintro (h|h);cases h;exact hl h))⟩)⟩ (by simp only;omega) Zad Zaa
  ·subst h0
   by_cases hw:0 < W
   ·repeat' first|refine Kz ?_|intro _
    (refine Zac ?_)
    refine ⟨As,?_,Zaa⟩
    rw [show cutR (path0 y) (-W) 0=none from Zn6 hw,Option.bind_none,Option.bind_none,Option.bind_none,Option.map_none]
    exact MetR.none (x:=[]) (y:=[])
   ·repeat' first|refine Kz ?_|intro _
    exact Post.round (1,⟨lo,hi,op⟩) ⟨⟨hlo,hhi⟩,.inr (.inl ⟨rfl,(by rw [show path0 y=_ from Option.some.inj hI];exact Zn5 hw)⟩)⟩ (by simp only;omega) Zad Zaa
  ·have hft:Fit 19 (qI W V):=Zet (by omega) (by omega) (by omega)
   repeat' first|refine Kz ?_|intro _
   refine Ks rfl (Za0 (n:=W) (d:=V) (by omega) (by omega) (by omega)) ?_
   repeat' first|refine Kz ?_|intro _
   refine Ks rfl (Zdr hlo hft) ?_
   by_cases hl:lo < qI W V
   ·rw [decide_eq_true hl]
    repeat' first|refine Kz ?_|intro _
    exact Post.round (1,⟨qI W V,hi,op⟩) ⟨⟨hft,hhi⟩,.inr (.inl ⟨rfl,(by rw [show path0 y=_ from Option.some.inj hI];exact Zrz h0 hl)⟩)⟩ (by simp only;omega) Zad Zaa
   ·rw [decide_eq_false hl]
    repeat' first|refine Kz ?_|intro _
    exact Post.round (1,⟨lo,hi,op⟩) ⟨⟨hlo,hhi⟩,.inr (.inl ⟨rfl,(by rw [show path0 y=_ from Option.some.inj hI];exact Zn7 h0 hl)⟩)⟩ (by simp only;omega) Zad Zaa
 ·show Tri _ _ _ _ [(1,.int .i64 (k:Int)),(2,.int .i64 σ),(5,.pointer (some ⟨b5,0,none⟩)),(8,.pointer (some ⟨b8,0,none⟩)),(10,.pointer (some ⟨b10,0,none⟩)),(12,.pointer (some ⟨b12,0,none⟩)),(14,.pointer (some ⟨b14,0,none⟩)),(16,.bool (!op)),(17,.int .i64 1)] (.cl b14 [.string ⟨(tN hi).toArray⟩,.string ⟨(tD hi).toArray⟩] 52::.cl b12 [.string ⟨(tN lo).toArray⟩,.string ⟨(tD lo).toArray⟩] 52::.cl b10 [.string ⟨#[]⟩,.string ⟨#[]⟩] 52::.cl b8 [.int .i64 v.x,.int .i64 v.y,.int .i64 v.z] 33::.cl b5 [.int .i64 a.x,.int .i64 a.y,.int .i64 a.z,.int .i64 b.x,.int .i64 b.y,.int .i64 b.z,.int .i64 c.x,.int .i64 c.y,.int .i64 c.z] 49::As) _
  repeat' first|refine Kz ?_|intro _
  rename_i b18
  refine Tri.mid (fun e' As'=>∃ b19,e'=[(1,.int .i64 (k:Int)),(2,.int .i64 σ),(5,.pointer (some ⟨b5,0,none⟩)),(8,.pointer (some ⟨b8,0,none⟩)),(10,.pointer (some ⟨b10,0,none⟩)),(12,.pointer (some ⟨b12,0,none⟩)),(14,.pointer (some ⟨b14,0,none⟩)),(16,.bool (!op)),(17,.int .i64 1),(18,.pointer (some ⟨b18,0,none⟩)),(19,.pointer (some ⟨b19,0,none⟩))]∧As'=.cl b19 [.int .i64 E2.x,.int .i64 E2.y,.int .i64 E2.z] 33::.cl b18 [.int .i64 b.x,.int .i64 b.y,.int .i64 b.z] 33::.cl b14 [.string ⟨(tN hi).toArray⟩,.string ⟨(tD hi).toArray⟩] 52::.cl b12 [.string ⟨(tN lo).toArray⟩,.string ⟨(tD lo).toArray⟩] 52::.cl b10 [.string ⟨#[]⟩,.string ⟨#[]⟩] 52::.cl b8 [.int .i64 v.x,.int .i64 v.y,.int .i64 v.z] 33::.cl b5 [.int .i64 a.x,.int .i64 a.y,.int .i64 a.z,.int .i64 b.x,.int .i64 b.y,.int .i64 b.z,.int .i64 c.x,.int .i64 c.y,.int .i64 c.z] 49::As) ?_ ?_
  ·refine Zaf [.cl b5 [.int .i64 a.x,.int .i64 a.y,.int .i64 a.z,.int .i64 b.x,.int .i64 b.y,.int .i64 b.z,.int .i64 c.x,.int .i64 c.y,.int .i64 c.z] 49,.cl b18 [.int .i64 b.x,.int .i64 b.y,.int .i64 b.z] 33] [] (.take 0 (.take 1 (.take 2 (.take 3 (.take 4 (.take 5 (.all [(6,.all [(7,.all [(8,.done)])]),(7,.all [(6,.all [(8,.done)])])]))))))) ?_
   repeat' first|refine Kf ?_|intro _|constructor
   repeat' (refine T1.callv rfl rfl rfl rfl rfl (ks2 _) ?_;rintro _ _ ⟨rfl,rfl⟩;(repeat' first|refine Kf ?_|intro _|constructor))
   all_goals exact Post.cut _ _ ⟨_,rfl,rfl⟩ Zad Zaa
  rintro _ _ ⟨b19,rfl,rfl⟩
  repeat' first|refine Kz ?_|intro _
  refine Ks rfl (kx2 _) ?_
  show TL _ _ _ _ _ ((_,.agg #[.int .i64 X2.x,.int .i64 X2.y,.int .i64 X2.z])::_) _ _
  repeat' first|refine Kz ?_|intro _
  refine TL.f rfl rfl (Zeb rfl rfl rfl hkb px2) ?_
  repeat' first|refine Kz ?_|intro _
  refine Ks rfl (kw2 _) ?_
  show TL _ _ _ _ _ ((_,.agg #[.int .i64 W2.x,.int .i64 W2.y,.int .i64 W2.z])::_) _ _
  repeat' first|refine Kz ?_|intro _
  refine TL.f rfl rfl (Zeb rfl rfl rfl hkb pw2) ?_
  repeat' first|refine Kz ?_|intro _
  clear kx1 kx2 kx3 kw1 kw2 kw3 ks1 ks2 ks3 px1 px2 px3 pw1 pw2 pw3
  generalize σ * X2.proj k=V at *
  generalize σ * W2.proj k=W at *
  rcases Int.lt_trichotomy V 0 with h0|h0|h0
  ·have hft:Fit 19 (qI W V):=Zet (by omega) (by omega) (by omega)
   repeat' first|refine Kz ?_|intro _
   refine Ks rfl (Za0 (n:=W) (d:=V) (by omega) (by omega) (by omega)) ?_
   repeat' first|refine Kz ?_|intro _
   cases op with
   | true =>
        repeat' first|refine Kz ?_|intro _
        exact Post.round (2,⟨lo,qI W V,false⟩) ⟨⟨hlo,hft⟩,.inr (.inr (.inl ⟨rfl,(by rw [hI];exact Zge h0 (.inl rfl))⟩))⟩ (by simp only;omega) Zad Zaa
   | false =>
        repeat' first|refine Kz ?_|intro _
        refine Ks rfl (Zdr hft hhi) ?_
        by_cases hl:qI W V < hi
        ·rw [decide_eq_true hl]
         repeat' first|refine Kz ?_|intro _
         exact Post.round (2,⟨lo,qI W V,false⟩) ⟨⟨hlo,hft⟩,.inr (.inr (.inl ⟨rfl,(by rw [hI];exact Zge h0 (.inr hl))⟩))⟩ (by simp only;omega) Zad Zaa
        ·rw [decide_eq_false hl]
         repeat' first|refine Kz ?_|intro _
         exact Post.round (2,⟨lo,hi,false⟩) ⟨⟨hlo,hhi⟩,.inr (.inr (.inl ⟨rfl,(by rw [hI];exact Zk9 h0 (by rintro (h|h);cases h;exact hl h))⟩))⟩ (by simp only;omega) Zad Zaa
  ·subst h0
   by_cases hw:0 < W
   ·repeat' first|refine Kz ?_|intro _
    (refine Zac ?_)
    refine ⟨As,?_,Zaa⟩
    rw [hI,show (some (⟨lo,hi,op⟩:Spn)).bind (fun s=>cutR s (-W) 0)=none from Zn6 hw,Option.bind_none,Option.bind_none,Option.map_none]
    exact MetR.none (x:=[]) (y:=[])
   ·repeat' first|refine Kz ?_|intro _
    exact Post.round (2,⟨lo,hi,op⟩) ⟨⟨hlo,hhi⟩,.inr (.inr (.inl ⟨rfl,(by rw [hI];exact Zn5 hw)⟩))⟩ (by simp only;omega) Zad Zaa
  ·have hft:Fit 19 (qI W V):=Zet (by omega) (by omega) (by omega)
   repeat' first|refine Kz ?_|intro _
   refine Ks rfl (Za0 (n:=W) (d:=V) (by omega) (by omega) (by omega)) ?_
   repeat' first|refine Kz ?_|intro _
   refine Ks rfl (Zdr hlo hft) ?_
   by_cases hl:lo < qI W V
   ·rw [decide_eq_true hl]
    repeat' first|refine Kz ?_|intro _
    exact Post.round (2,⟨qI W V,hi,op⟩) ⟨⟨hft,hhi⟩,.inr (.inr (.inl ⟨rfl,(by rw [hI];exact Zrz h0 hl)⟩))⟩ (by simp only;omega) Zad Zaa
   ·rw [decide_eq_false hl]
    repeat' first|refine Kz ?_|intro _
    exact Post.round (2,⟨lo,hi,op⟩) ⟨⟨hlo,hhi⟩,.inr (.inr (.inl ⟨rfl,(by rw [hI];exact Zn7 h0 hl)⟩))⟩ (by simp only;omega) Zad Zaa
 ·show Tri _ _ _ _ [(1,.int .i64 (k:Int)),(2,.int .i64 σ),(5,.pointer (some ⟨b5,0,none⟩)),(8,.pointer (some ⟨b8,0,none⟩)),(10,.pointer (some ⟨b10,0,none⟩)),(12,.pointer (some ⟨b12,0,none⟩)),(14,.pointer (some ⟨b14,0,none⟩)),(16,.bool (!op)),(17,.int .i64 2)] (.cl b14 [.string ⟨(tN hi).toArray⟩,.string ⟨(tD hi).toArray⟩] 52::.cl b12 [.string ⟨(tN lo).toArray⟩,.string ⟨(tD lo).toArray⟩] 52::.cl b10 [.string ⟨#[]⟩,.string ⟨#[]⟩] 52::.cl b8 [.int .i64 v.x,.int .i64 v.y,.int .i64 v.z] 33::.cl b5 [.int .i64 a.x,.int .i64 a.y,.int .i64 a.z,.int .i64 b.x,.int .i64 b.y,.int .i64 b.z,.int .i64 c.x,.int .i64 c.y,.int .i64 c.z] 49::As) _
  repeat' first|refine Kz ?_|intro _
  rename_i b18
  refine Tri.mid (fun e' As'=>∃ b19,e'=[(1,.int .i64 (k:Int)),(2,.int .i64 σ),(5,.pointer (some ⟨b5,0,none⟩)),(8,.pointer (some ⟨b8,0,none⟩)),(10,.pointer (some ⟨b10,0,none⟩)),(12,.pointer (some ⟨b12,0,none⟩)),(14,.pointer (some ⟨b14,0,none⟩)),(16,.bool (!op)),(17,.int .i64 2),(18,.pointer (some ⟨b18,0,none⟩)),(19,.pointer (some ⟨b19,0,none⟩))]∧As'=.cl b19 [.int .i64 E3.x,.int .i64 E3.y,.int .i64 E3.z] 33::.cl b18 [.int .i64 c.x,.int .i64 c.y,.int .i64 c.z] 33::.cl b14 [.string ⟨(tN hi).toArray⟩,.string ⟨(tD hi).toArray⟩] 52::.cl b12 [.string ⟨(tN lo).toArray⟩,.string ⟨(tD lo).toArray⟩] 52::.cl b10 [.string ⟨#[]⟩,.string ⟨#[]⟩] 52::.cl b8 [.int .i64 v.x,.int .i64 v.y,.int .i64 v.z] 33::.cl b5 [.int .i64 a.x,.int .i64 a.y,.int .i64 a.z,.int .i64 b.x,.int .i64 b.y,.int .i64 b.z,.int .i64 c.x,.int .i64 c.y,.int .i64 c.z] 49::As) ?_ ?_
  ·refine Zaf [.cl b5 [.int .i64 a.x,.int .i64 a.y,.int .i64 a.z,.int .i64 b.x,.int .i64 b.y,.int .i64 b.z,.int .i64 c.x,.int .i64 c.y,.int .i64 c.z] 49,.cl b18 [.int .i64 c.x,.int .i64 c.y,.int .i64 c.z] 33] [] (.take 0 (.take 1 (.take 2 (.take 3 (.take 4 (.take 5 (.all [(6,.all [(7,.all [(8,.done)])]),(7,.all [(6,.all [(8,.done)])])]))))))) ?_
   repeat' first|refine Kf ?_|intro _|constructor
   repeat' (refine T1.callv rfl rfl rfl rfl rfl (ks3 _) ?_;rintro _ _ ⟨rfl,rfl⟩;(repeat' first|refine Kf ?_|intro _|constructor))
   all_goals exact Post.cut _ _ ⟨_,rfl,rfl⟩ Zad Zaa
  rintro _ _ ⟨b19,rfl,rfl⟩
  repeat' first|refine Kz ?_|intro _
  refine Ks rfl (kx3 _) ?_
  show TL _ _ _ _ _ ((_,.agg #[.int .i64 X3.x,.int .i64 X3.y,.int .i64 X3.z])::_) _ _
  repeat' first|refine Kz ?_|intro _
  refine TL.f rfl rfl (Zeb rfl rfl rfl hkb px3) ?_
  repeat' first|refine Kz ?_|intro _
  refine Ks rfl (kw3 _) ?_
  show TL _ _ _ _ _ ((_,.agg #[.int .i64 W3.x,.int .i64 W3.y,.int .i64 W3.z])::_) _ _
  repeat' first|refine Kz ?_|intro _
  refine TL.f rfl rfl (Zeb rfl rfl rfl hkb pw3) ?_
  repeat' first|refine Kz ?_|intro _
  clear kx1 kx2 kx3 kw1 kw2 kw3 ks1 ks2 ks3 px1 px2 px3 pw1 pw2 pw3
  generalize σ * X3.proj k=V at *
  generalize σ * W3.proj k=W at *
  rcases Int.lt_trichotomy V 0 with h0|h0|h0
  ·have hft:Fit 19 (qI W V):=Zet (by omega) (by omega) (by omega)
   repeat' first|refine Kz ?_|intro _
   refine Ks rfl (Za0 (n:=W) (d:=V) (by omega) (by omega) (by omega)) ?_
   repeat' first|refine Kz ?_|intro _
   cases op with
   | true =>
        repeat' first|refine Kz ?_|intro _
        exact Post.round (3,⟨lo,qI W V,false⟩) ⟨⟨hlo,hft⟩,.inr (.inr (.inr ⟨rfl,(by rw [hI];exact Zge h0 (.inl rfl))⟩))⟩ (by simp only;omega) Zad Zaa
   | false =>
        repeat' first|refine Kz ?_|intro _
        refine Ks rfl (Zdr hft hhi) ?_
        by_cases hl:qI W V < hi
        ·rw [decide_eq_true hl]
         repeat' first|refine Kz ?_|intro _
         exact Post.round (3,⟨lo,qI W V,false⟩) ⟨⟨hlo,hft⟩,.inr (.inr (.inr ⟨rfl,(by rw [hI];exact Zge h0 (.inr hl))⟩))⟩ (by simp only;omega) Zad Zaa
        ·rw [decide_eq_false hl]
         repeat' first|refine Kz ?_|intro _
         exact Post.round (3,⟨lo,hi,false⟩) ⟨⟨hlo,hhi⟩,.inr (.inr (.inr ⟨rfl,(by rw [hI];exact Zk9 h0 (by rintro (h|h);cases h;exact hl h))⟩))⟩ (by simp only;omega) Zad Zaa
  ·subst h0
   by_cases hw:0 < W
   ·repeat' first|refine Kz ?_|intro _
    (refine Zac ?_)
    refine ⟨As,?_,Zaa⟩
    rw [hI,show (some (⟨lo,hi,op⟩:Spn)).bind (fun s=>cutR s (-W) 0)=none from Zn6 hw,Option.bind_none,Option.map_none]
    exact MetR.none (x:=[]) (y:=[])
   ·repeat' first|refine Kz ?_|intro _
    exact Post.round (3,⟨lo,hi,op⟩) ⟨⟨hlo,hhi⟩,.inr (.inr (.inr ⟨rfl,(by rw [hI];exact Zn5 hw)⟩))⟩ (by simp only;omega) Zad Zaa
  ·have hft:Fit 19 (qI W V):=Zet (by omega) (by omega) (by omega)
   repeat' first|refine Kz ?_|intro _
   refine Ks rfl (Za0 (n:=W) (d:=V) (by omega) (by omega) (by omega)) ?_
   repeat' first|refine Kz ?_|intro _
   refine Ks rfl (Zdr hlo hft) ?_
   by_cases hl:lo < qI W V
   ·rw [decide_eq_true hl]
    repeat' first|refine Kz ?_|intro _
    exact Post.round (3,⟨qI W V,hi,op⟩) ⟨⟨hft,hhi⟩,.inr (.inr (.inr ⟨rfl,(by rw [hI];exact Zrz h0 hl)⟩))⟩ (by simp only;omega) Zad Zaa
   ·rw [decide_eq_false hl]
    repeat' first|refine Kz ?_|intro _
    exact Post.round (3,⟨lo,hi,op⟩) ⟨⟨hlo,hhi⟩,.inr (.inr (.inr ⟨rfl,(by rw [hI];exact Zn7 h0 hl)⟩))⟩ (by simp only;omega) Zad Zaa
 ·show Tri _ _ _ _ [(1,.int .i64 (k:Int)),(2,.int .i64 σ),(5,.pointer (some ⟨b5,0,none⟩)),(8,.pointer (some ⟨b8,0,none⟩)),(10,.pointer (some ⟨b10,0,none⟩)),(12,.pointer (some ⟨b12,0,none⟩)),(14,.pointer (some ⟨b14,0,none⟩)),(16,.bool (!op)),(17,.int .i64 3)] (.cl b14 [.string ⟨(tN hi).toArray⟩,.string ⟨(tD hi).toArray⟩] 52::.cl b12 [.string ⟨(tN lo).toArray⟩,.string ⟨(tD lo).toArray⟩] 52::.cl b10 [.string ⟨#[]⟩,.string ⟨#[]⟩] 52::.cl b8 [.int .i64 v.x,.int .i64 v.y,.int .i64 v.z] 33::.cl b5 [.int .i64 a.x,.int .i64 a.y,.int .i64 a.z,.int .i64 b.x,.int .i64 b.y,.int .i64 b.z,.int .i64 c.x,.int .i64 c.y,.int .i64 c.z] 49::As) _
  rw [hI]
  clear hI kx1 kx2 kx3 kw1 kw2 kw3 ks1 ks2 ks3
  repeat' first|refine Kz ?_|intro _
  refine Zaf [.cl b14 [.string ⟨(tN hi).toArray⟩,.string ⟨(tD hi).toArray⟩] 52,.cl b12 [.string ⟨(tN lo).toArray⟩,.string ⟨(tD lo).toArray⟩] 52] [] (.take 0 (.take 1 (.take 2 (.take 3 (.take 4 (.take 5 (.all [(6,.take 7 (.take 8 (.all [(9,.take 10 (.done))])))]))))))) ?_
  repeat' first|refine Kf ?_|intro _|constructor
  cases op with
  | true =>
   repeat' first|refine Kf ?_|intro _|constructor
   (refine Zac ?_)
   refine ⟨As,?_,Zaa⟩
   rw [Option.bind_some,if_pos (.inl rfl)]
   exact MetR.some (t:=lo)
  | false =>
   repeat' first|refine Kf ?_|intro _|constructor
   refine Ku rfl (Zdr hhi hlo) ?_
   by_cases hl:hi < lo
   ·rw [decide_eq_true hl]
    repeat' first|refine Kf ?_|intro _|constructor
    (refine Zac ?_)
    refine ⟨As,?_,Zaa⟩
    rw [Option.bind_some,if_neg (by rintro (h|h);cases h;exact Rat.not_lt.2 h hl)]
    exact MetR.none (x:=tN lo) (y:=tD lo)
   ·rw [decide_eq_false hl]
    repeat' first|refine Kf ?_|intro _|constructor
    (refine Zac ?_)
    refine ⟨As,?_,Zaa⟩
    rw [Option.bind_some,if_pos (.inr (Rat.not_lt.1 hl))]
    exact MetR.some (t:=lo)
end Go.Proofs.YtngcfjfaobcpmaaGreatDoor
namespace Go.Sx
open Go
theorem Zz8 {y:Bool} {a b c d:V3}:metR y a b c d=if (nrm a b c).dot d≠0 then ((thrM a b c (nrm a b c) d).bind fun t=>if y=true∨¬ 1 < t then some t else none)
  else if (nrm a b c).dot a≠0 then none else alongM (path0 y) (axR (nrm a b c)) (nrm a b c) a b c d:=by
 unfold metR thrM alongM
 by_cases h:(nrm a b c).dot d≠0
 ·rw [if_pos h,if_pos h]
  by_cases hm:(det3 d a b < 0∨det3 d b c < 0∨det3 d c a < 0)∧(0 < det3 d a b∨0 < det3 d b c∨0 < det3 d c a)
  ·rw [if_pos hm,if_pos hm];rfl
  ·rw [if_neg hm,if_neg hm]
   by_cases hq:0≤qI ((nrm a b c).dot a) ((nrm a b c).dot d)
   ·rw [if_pos (c:=0≤qI ((nrm a b c).dot a) ((nrm a b c).dot d)) hq,Option.bind_some]
    by_cases hy:y=true∨¬ 1 < qI ((nrm a b c).dot a) ((nrm a b c).dot d)
    ·rw [if_pos ⟨hq,hy⟩,if_pos hy]
    ·rw [if_neg (fun k=>hy k.2),if_neg hy]
   ·rw [if_neg (fun k=>hq k.1),if_neg hq];rfl
 ·rw [if_neg h,if_neg h]
theorem Z6l {a b c n v:V3} {t:Rat} (ha:a.in 400000) (hn:n.in 320000000000) (hv:v.in 400000) (h0:n.dot v≠0) (h:thrM a b c n v=some t):Fit 19 t:=by
 have b1:-9223372036854775807≤n.dot a∧n.dot a≤9223372036854775807:=by have:=Zjn (by decide) (by decide) hn ha;simp only [V3.dot];omega
 have b2:-9223372036854775807≤n.dot v∧n.dot v≤9223372036854775807:=by have:=Zjn (by decide) (by decide) hn hv;simp only [V3.dot];omega
 unfold thrM at h
 split at h
 ·cases h
 ·split at h
  ·rw [← Option.some.inj h];exact Zet (by omega) (by omega) h0
  ·cases h
theorem Z7s {y:Bool} {a b c d:V3} {t:Rat} (hn:nrm a b c≠V3.zero) (ha:a.in 400000) (hb:b.in 400000) (hc:c.in 400000) (hd:d.in 400000) (hd0:d≠V3.zero) (h:metR y a b c d=some t):Fit 19 t:=by
 rw [← Z9s y hn hd0] at h
 exact Zj8 ha hb hc hd hd0 h
def bestFc:Option (Rat × Nat)→Int
 | none=>-1
 | some (_,j)=>(j:Int)
def bestCl:Option (Rat × Nat)→List Value
 | none=>[.string ⟨#[]⟩,.string ⟨#[]⟩]
 | some (t,_)=>[.string ⟨(tN t).toArray⟩,.string ⟨(tD t).toArray⟩]
end Go.Sx
namespace Go.Proofs.YtngcfjfaobcpmaaGreatDoor
open Go Go.Sx
variable {w0:World} {As:List Ent} {pv fv:Value} {pts fcs:List V3}
set_option maxRecDepth 100000 in
set_option maxHeartbeats 8000000 in
theorem Z2n {k:Nat} {f p q:V3} {y:Bool} (hf:fcs[k]?=some f) (hw:isWrong pts.length f=false) (hs:Seeable pts fcs p) (hq:q.in 200000) [RdIn As fv V3 cV3 fcs] [RdIn As pv V3 cV3 pts] :
  CallsS Tryz.prog w0 89 [.agg #[pv,fv],.int .i64 (k:Int),p.val,q.val,.bool y] As (MetR As (metR y (relV pts p f.x) (relV pts p f.y) (relV pts p f.z) (q.sub p))):=by
 have np:=hs.at_
 obtain ⟨g1,g2,g3⟩:=hs.rel (List.mem_of_getElem? hf)
 have hd:(q.sub p).in 400000:=Zcl hq np
 have hfar:=hs.pts
 have hn:(normal pts f).in 320000000000:=Ztb hfar f
 have hax:=fun Bs [RdIn Bs fv V3 cV3 fcs] [RdIn Bs pv V3 cV3 pts]=>Zxv (w0:=w0) (As:=Bs) (pv:=pv) (fv:=fv) (k:=k) hf hw hfar
 have hno:=fun Bs [RdIn Bs fv V3 cV3 fcs] [RdIn Bs pv V3 cV3 pts]=>Zif (w0:=w0) (As:=Bs) (pv:=pv) (fv:=fv) (n:=k) hf hw hfar
 have hmi:=fun Bs=>Zcb (w0:=w0) (As:=Bs) (p:=q) (q:=p) hq np (by decide)
 refine Zab Tryz.func89 rfl Tryz.ntmps89 rfl ?_
 show Tri _ _ _ _ (env0 0 [.agg #[pv,fv],.int .i64 (k:Int),.agg #[.int .i64 p.x,.int .i64 p.y,.int .i64 p.z],.agg #[.int .i64 q.x,.int .i64 q.y,.int .i64 q.z],.bool y]) _ _
 rw [Zz8,Zvv]
 repeat' first|refine Kz ?_|intro _
 refine Ks rfl (Zgr (k:=k) (p:=p) hf hs) ?_
 clear hs hfar
 generalize relV pts p f.x=a at *
 generalize relV pts p f.y=b at *
 generalize relV pts p f.z=c at *
 generalize normal pts f=n at *
 generalize q.sub p=v at *
 show TL _ _ _ _ _ ((_,.tuple #[.agg #[.int .i64 a.x,.int .i64 a.y,.int .i64 a.z],.agg #[.int .i64 b.x,.int .i64 b.y,.int .i64 b.z],.agg #[.int .i64 c.x,.int .i64 c.y,.int .i64 c.z]])::_) _ _
 repeat' first|refine Kz ?_|intro _
 rename_i b5 b7 b8 b10 b12 b13 b14
 refine Tri.mid (fun e' As'=>∃ b15 b16,e'=[(1,.int .i64 (k:Int)),(4,.bool y),(5,.pointer (some ⟨b5,0,none⟩)),(10,.pointer (some ⟨b10,0,none⟩)),(12,.pointer (some ⟨b12,0,none⟩)),(13,.pointer (some ⟨b13,0,none⟩)),(14,.pointer (some ⟨b14,0,none⟩)),(15,.pointer (some ⟨b15,0,none⟩)),(16,.pointer (some ⟨b16,0,none⟩))] ∧
  As'=.cl b16 [.int .i64 v.x,.int .i64 v.y,.int .i64 v.z] 33::.cl b15 [.int .i64 n.x,.int .i64 n.y,.int .i64 n.z] 33::.cl b14 [.int .i64 c.x,.int .i64 c.y,.int .i64 c.z] 33::.cl b13 [.int .i64 b.x,.int .i64 b.y,.int .i64 b.z] 33::.cl b12 [.int .i64 a.x,.int .i64 a.y,.int .i64 a.z] 33::.cl b10 [.string ⟨#[]⟩,.string ⟨#[]⟩] 52::.cl b5 [pv,fv] 36::As) ?_ ?_
 ·refine Zaf (.cl b5 [pv,fv] 36::.cl b8 [.int .i64 q.x,.int .i64 q.y,.int .i64 q.z] 33::.cl b7 [.int .i64 p.x,.int .i64 p.y,.int .i64 p.z] 33::As) [] (.take 0 (.take 1 (.take 3 (.take 4 (.all [(2,.all [(5,.all [(6,.all [(7,.all [(8,.all [(9,.done)])])]),(7,.all [(6,.all [(8,.all [(9,.done)])])])]),(6,.all [(5,.all [(7,.all [(8,.all [(9,.done)])])]),(7,.all [(5,.all [(8,.all [(9,.done)])])])]),(7,.all [(5,.all [(6,.all [(8,.all [(9,.done)])])]),(6,.all [(5,.all [(8,.all [(9,.done)])])])])]),(6,.all [(2,.all [(5,.all [(7,.all [(8,.all [(9,.done)])])]),(7,.all [(5,.all [(8,.all [(9,.done)])])])]),(7,.all [(2,.all [(5,.all [(8,.all [(9,.done)])])])])]),(7,.all [(2,.all [(5,.all [(6,.all [(8,.all [(9,.done)])])]),(6,.all [(5,.all [(8,.all [(9,.done)])])])]),(6,.all [(2,.all [(5,.all [(8,.all [(9,.done)])])])])])]))))) ?_
  repeat' first|refine Kf ?_|intro _|constructor
  repeat' (first|(refine T1.callv rfl rfl rfl rfl rfl (hno _) ?_;rintro _ _ ⟨rfl,rfl⟩;show TC _ _ _ _ _ _ _ ((_,.agg #[.int .i64 n.x,.int .i64 n.y,.int .i64 n.z])::_) _ _;(repeat' first|refine Kf ?_|intro _|constructor))|(refine T1.callv rfl rfl rfl rfl rfl (hmi _) ?_;rintro _ _ ⟨rfl,rfl⟩;show TC _ _ _ _ _ _ _ ((_,.agg #[.int .i64 v.x,.int .i64 v.y,.int .i64 v.z])::_) _ _;(repeat' first|refine Kf ?_|intro _|constructor)))
  all_goals exact Post.cut _ _ ⟨_,_,rfl,rfl⟩ Zad Zaa
 rintro _ _ ⟨b15,b16,rfl,rfl⟩
 clear hno hmi
 have hd1:=fun Bs=>Zn2 (w0:=w0) (As:=Bs) hn hd (by decide) (by decide) (by decide)
 have hd2:=fun Bs=>Zn2 (w0:=w0) (As:=Bs) hn g1 (by decide) (by decide) (by decide)
 repeat' first|refine Kz ?_|intro _
 refine Ks rfl (hd1 _) ?_
 by_cases h0:n.dot v≠0
 ·rw [if_pos h0]
  have htf:=fun t=>Z6l (t:=t) (a:=a) (b:=b) (c:=c) g1 hn hd h0
  have hth:=fun Bs=>Zvb (w0:=w0) (As:=Bs) g1 g2 g3 hn hd h0
  generalize thrM a b c n v=o at *
  generalize n.dot v=dv at *
  clear hax hd1 hd2
  repeat' first|refine Kz ?_|intro _
  refine TL.callv rfl rfl rfl rfl (hth _) ?_
  rintro _ _ ⟨⟨x,z,rfl,hxz⟩,rfl⟩
  repeat' first|refine Kz ?_|intro _
  refine TL.callv rfl rfl rfl rfl (Za0 (n:=1) (d:=1) (by decide) (by decide) (by decide)) ?_
  rw [show qI 1 1=1 by decide +kernel]
  rintro _ _ ⟨rfl,rfl⟩
  repeat' first|refine Kz ?_|intro _
  rename_i b17 b19
  refine Zaf [.cl b17 [.string ⟨x.toArray⟩,.string ⟨z.toArray⟩] 52,.cl b19 [.string ⟨(tN 1).toArray⟩,.string ⟨(tD 1).toArray⟩] 52] [] (.take 0 (.take 1 (.take 2 (.take 3 (.take 4 (.take 5 (.take 6 (.all [(7,.take 8 (.take 9 (.take 10 (.all [(11,.take 12 (.done))]))))])))))))) ?_
  repeat' first|refine Kf ?_|intro _|constructor
  cases o with
  | none =>
   rw [show (none:Option Rat).isSome=false from rfl]
   repeat' first|refine Kf ?_|intro _|constructor
   (refine Zac ?_)
   exact ⟨_,MetR.none (x:=x) (y:=z),Zaa⟩
  | some t =>
   obtain ⟨rfl,rfl⟩:=hxz t rfl
   rw [show (some t:Option Rat).isSome=true from rfl,Option.bind_some]
   have hft:=htf t rfl
   cases y with
   | true =>
        rw [if_pos (.inl rfl)]
        repeat' first|refine Kf ?_|intro _|constructor
        (refine Zac ?_)
        exact ⟨_,MetR.some (t:=t),Zaa⟩
   | false =>
        repeat' first|refine Kf ?_|intro _|constructor
        refine Ku rfl (Zdr fit1 hft) ?_
        by_cases hl:1 < t
        ·rw [decide_eq_true hl,if_neg (by rintro (h|h);cases h;exact h hl)]
         repeat' first|refine Kf ?_|intro _|constructor
         (refine Zac ?_)
         exact ⟨_,MetR.none (x:=tN t) (y:=tD t),Zaa⟩
        ·rw [decide_eq_false hl,if_pos (.inr hl)]
         repeat' first|refine Kf ?_|intro _|constructor
         (refine Zac ?_)
         exact ⟨_,MetR.some (t:=t),Zaa⟩
 ·rw [if_neg h0]
  have h0:n.dot v=0:=Classical.byContradiction h0
  rw [h0]
  repeat' first|refine Kz ?_|intro _
  refine Ks rfl (hd2 _) ?_
  by_cases h1:n.dot a≠0
  ·rw [if_pos h1]
   generalize n.dot a=da at *
   clear hax hd1 hd2
   repeat' first|refine Kz ?_|intro _
   (refine Zac ?_)
   exact ⟨_,MetR.none (x:=[]) (y:=[]),Zaa⟩
  ·rw [if_neg h1]
   have h1:n.dot a=0:=Classical.byContradiction h1
   rw [h1]
   clear hd1 hd2
   repeat' first|refine Kz ?_|intro _
   refine Ks rfl (hax _) ?_
   have hk3:axR n < 3:=by rcases Zuf n with hk|hk|hk<;>omega
   have hka:=fun Bs=>Z2w (w0:=w0) (As:=Bs) (n:=n) (y:=y) hk3 g1 g2 g3 hd
   have hks:∀ k:Nat,k=axR n→((k=0∧n.proj k=n.x)∨(k=1∧n.proj k=n.y)∨(k=2∧n.proj k=n.z)):=by
        intro k hk
        have:k=0∨k=1∨k=2:=by omega
        rcases this with rfl|rfl|rfl
        ·exact .inl ⟨rfl,rfl⟩
        ·exact .inr (.inl ⟨rfl,rfl⟩)
        ·exact .inr (.inr ⟨rfl,rfl⟩)
   have hks:=hks _ rfl
   clear hax hk3
   generalize axR n=κ at *
   generalize alongM (path0 y) κ n a b c v=o at hka ⊢
   generalize n.proj κ=π at *
   rcases hks with ⟨rfl,rfl⟩|⟨rfl,rfl⟩|⟨rfl,rfl⟩
   all_goals
        repeat' first|refine Kf ?_|intro _|constructor
        refine Zaf [.cl b12 [.int .i64 a.x,.int .i64 a.y,.int .i64 a.z] 33,.cl b13 [.int .i64 b.x,.int .i64 b.y,.int .i64 b.z] 33,.cl b14 [.int .i64 c.x,.int .i64 c.y,.int .i64 c.z] 33,.cl b15 [.int .i64 n.x,.int .i64 n.y,.int .i64 n.z] 33,.cl b16 [.int .i64 v.x,.int .i64 v.y,.int .i64 v.z] 33] [] (.take 0 (.take 1 (.take 2 (.take 3 (.take 4 (.take 5 (.take 6 (.take 7 (.take 9 (.take 10 (.all [(8,.all [(11,.take 12 (.take 13 (.all [(14,.take 15 (.done))])))])]))))))))))) ?_
        repeat' first|refine Kf ?_|intro _|constructor
        refine Kw rfl Zfn ?_
        repeat' first|refine Kf ?_|intro _|constructor
        refine T1.callv rfl rfl rfl rfl rfl (hka _) ?_
        rintro _ _ ⟨⟨x,z,rfl,hxz⟩,rfl⟩
        repeat' first|refine Kf ?_|intro _|constructor
        (refine Zac ?_)
        exact ⟨_,⟨⟨x,z,rfl,hxz⟩,rfl⟩,Zaa⟩
end Go.Proofs.YtngcfjfaobcpmaaGreatDoor
namespace Go.Proofs.YtngcfjfaobcpmaaGreatDoor
open Go Go.Sx
variable {w0:World} {As:List Ent} {pv fv:Value} {pts fcs:List V3}
set_option maxRecDepth 100000 in
set_option maxHeartbeats 8000000 in
theorem Znh {p q:V3} {y:Bool} [RdIn As fv V3 cV3 fcs] [RdIn As pv V3 cV3 pts] :
  CQ Tryz.prog w0 37 [.agg #[pv,fv],p.val,q.val,.bool y] As (rayR (rayW pts fcs p q y)):=by
 refine Zab Tryz.func37 rfl Tryz.ntmps37 rfl ?_
 show Tri _ _ _ _ (env0 0 [.agg #[pv,fv],.agg #[.int .i64 p.x,.int .i64 p.y,.int .i64 p.z],.agg #[.int .i64 q.x,.int .i64 q.y,.int .i64 q.z],.bool y]) _ _
 repeat' first|refine Kz ?_|intro _
 rename_i b4 b5 b6 b8
 refine Ks rfl (Zng (pv:=pv) (fv:=fv) (pts:=pts) (fcs:=fcs) (p:=p)) ?_
 by_cases hfl:(flawM pts fcs).1=0
 ·have hg : Sx.Good pts fcs:=Yga.1 hfl
  cases hfar:isFar p with
  | true =>
   rw [show chkW pts fcs p=2 by unfold chkW;rw [hfl,hfar];rfl,show rayW pts fcs p q y=.inl 2 by unfold rayW;rw [hfl,hfar];rfl]
   repeat' first|refine Kz ?_|intro _
   exact Kv
  | false =>
   rw [show chkW pts fcs p=0 by unfold chkW;rw [hfl,hfar];rfl]
   have hs:=hg.see hfar
   repeat' first|refine Kz ?_|intro _
   refine Ks rfl (Znc (p:=q)) ?_
   cases hfaq:isFar q with
   | true =>
        rw [show rayW pts fcs p q y=.inl 2 by unfold rayW;rw [if_neg (fun h=>h hfl),if_pos (.inr (.inl hfaq))]]
        repeat' first|refine Kz ?_|intro _
        exact Kv
   | false =>
        by_cases hpq:p=q
        ·rw [show rayW pts fcs p q y=.inl 2 by unfold rayW;rw [if_neg (fun h=>h hfl),if_pos (.inr (.inr hpq))]]
         subst hpq
         repeat' first|refine Kz ?_|intro _
         rw [show decide ((⟨p.x,p.y,p.z⟩:V3)=⟨p.x,p.y,p.z⟩)=true from decide_eq_true rfl]
         repeat' first|refine Kz ?_|intro _
         exact Kv
        ·have hne:((⟨p.x,p.y,p.z⟩:V3)=⟨q.x,q.y,q.z⟩)=False:=eq_false hpq
         have hrw:rayW pts fcs p q y=(match rayM metP pts fcs p q y with|none=>Sum.inl 4|some r=>Sum.inr r):=by
          unfold rayW;rw [if_neg (fun h=>h hfl),if_neg (by rw [hfar,hfaq];simp [hpq])];cases rayM metP pts fcs p q y<;>rfl
         rw [hrw,Yax hg hpq]
         clear hrw
         have hlF:=hs.lenF
         have hqi:=Zb2 hfaq
         have hd:(q.sub p).in 400000:=Zcl hqi (Zb2 hfar)
         have hd0:q.sub p≠V3.zero:=fun h=>hpq (by
          rw [Za2]
          simp only [V3.sub,V3.zero,V3.mk.injEq] at h
          omega)
         obtain ⟨g,hgd⟩:∃ g:V3→Option Rat,g=(fun f=>metR y (relV pts p f.x) (relV pts p f.y) (relV pts p f.z) (q.sub p)):=⟨_,rfl⟩
         have hfg:∀ f∈fcs,∀ t,g f=some t→Fit 19 t:=fun f hf t h=>by
          obtain ⟨n1,n2,n3⟩:=hs.rel hf
          rw [hgd] at h
          exact Z7s (hg.nzR p hf) n1 n2 n3 hd hd0 h
         have hfit:∀ k,k≤fcs.length→bestFit (firstK g fcs k):=by
          intro k
          induction k with
          | zero=>intro _;exact trivial
          | succ k ih =>
           intro hk
           obtain ⟨f,hf⟩:∃ f,fcs[k]?=some f:=⟨_,List.getElem?_eq_getElem (by omega)⟩
           unfold firstK
           rw [hf,Option.bind_some]
           exact Zud (ih (by omega)) fun t h=>hfg f (List.mem_of_getElem? hf) t h
         rw [show rayM metR pts fcs p q y=firstK g fcs fcs.length by rw [hgd];rfl]
         repeat' first|refine Kz ?_|intro _
         rw [show decide ((⟨p.x,p.y,p.z⟩:V3)=⟨q.x,q.y,q.z⟩)=false from decide_eq_false hpq]
         repeat' first|refine Kz ?_|intro _
         rename_i b12
         refine Tri.loop (ι:=Nat) (fun k=>k≤fcs.length) (fun k=>fcs.length - k)
          (fun k=>[(3,.bool y),(4,.pointer (some ⟨b4,0,none⟩)),(5,.pointer (some ⟨b5,0,none⟩)),(6,.pointer (some ⟨b6,0,none⟩)),(8,.pointer (some ⟨b8,0,none⟩)),(12,.pointer (some ⟨b12,0,none⟩)),(13,.int .i64 (bestFc (firstK g fcs k))),(14,.int .i64 (k:Int))])
          (fun k=>.cl b12 (bestCl (firstK g fcs k)) 52::.cl b8 [.string ⟨#[]⟩,.string ⟨#[]⟩] 52::.cl b4 [pv,fv] 36::.cl b5 [.int .i64 p.x,.int .i64 p.y,.int .i64 p.z] 33::.cl b6 [.int .i64 q.x,.int .i64 q.y,.int .i64 q.z] 33::As) 0 (by omega) (by show Sub _ [_,_,_,_,_,_,(13,.int .i64 (-1)),_];(exact Zad)) (by show Ents _ (.cl b12 [.string ⟨#[]⟩,.string ⟨#[]⟩] _::_);(exact Zaa)) ?_
         intro k hk
         have hb:=hfit k hk
         have hK:∀ f,fcs[k]?=some f→firstK g fcs (k+1)=bestS (firstK g fcs k) k (g f):=fun f hf=>by
          show bestS (firstK g fcs k) k ((fcs[k]?).bind g)=_
          rw [hf,Option.bind_some]
         have hend:k=fcs.length→firstK g fcs fcs.length=firstK g fcs k:=fun h=>by rw [h]
         have hme:=fun f (hf:fcs[k]?=some f) Bs [RdIn Bs fv V3 cV3 fcs] [RdIn Bs pv V3 cV3 pts]=>Z2n (w0:=w0) (As:=Bs) (pv:=pv) (fv:=fv) (y:=y) hf (hg.right (List.mem_of_getElem? hf)) hs hqi
         have hgf:∀ f:V3,metR y (relV pts p f.x) (relV pts p f.y) (relV pts p f.z) (q.sub p)=g f:=fun f=>by rw [hgd]
         simp only [hgf] at hme
         generalize firstK g fcs k=B at *
         clear hgf hgd hfit hne hd hd0 hqi
         cases B with
         | none =>
          show Tri _ _ _ _ [(3,_),(4,_),(5,_),(6,_),(8,_),(12,_),(13,.int .i64 (-1)),(14,.int .i64 (k:Int))] (.cl b12 [.string ⟨#[]⟩,.string ⟨#[]⟩] _::_) _
          repeat' first|refine Kz ?_|intro _
          (refine Kx (fun hc=>?_) fun hc=>?_)
          ·obtain ⟨f,hf⟩:∃ f,fcs[k]?=some f:=⟨_,List.getElem?_eq_getElem (by omega)⟩
           have hK:=hK f hf
           have hme:=hme f hf
           have hfo:=hfg f (List.mem_of_getElem? hf)
           generalize g f=o at *
           clear hfg
           repeat' first|refine Kz ?_|intro _
           refine TL.callv rfl rfl rfl rfl (hme _) ?_
           rintro _ _ ⟨⟨x,z,rfl,hxz⟩,rfl⟩
           clear hme
           cases o with
           | none =>
                have hK':firstK g fcs (k+1)=none:=hK
                rw [show (none:Option Rat).isSome=false from rfl]
                repeat' first|refine Kz ?_|intro _
                exact Post.round (k+1) (by omega) (by omega) (by rw [hK'];show Sub _ [_,_,_,_,_,_,(13,.int .i64 (-1)),_];(exact Zad)) (by rw [hK'];show Ents _ (.cl b12 [.string ⟨#[]⟩,.string ⟨#[]⟩] _::_);(exact Zaa))
           | some t =>
                obtain ⟨rfl,rfl⟩:=hxz t rfl
                have hK':firstK g fcs (k+1)=some (t,k):=hK
                rw [show (some t:Option Rat).isSome=true from rfl]
                repeat' first|refine Kz ?_|intro _
                exact Post.round (k+1) (by omega) (by omega) (by rw [hK'];show Sub _ [_,_,_,_,_,_,(13,.int .i64 (k:Int)),_];(exact Zad)) (by rw [hK'];show Ents _ (.cl b12 [.string ⟨(tN t).toArray⟩,.string ⟨(tD t).toArray⟩] _::_);(exact Zaa))
          ·rw [hend (by omega)]
           repeat' first|refine Kz ?_|intro _
           exact Kv
         | some b =>
          obtain ⟨u,j⟩:=b
          show Tri _ _ _ _ [(3,_),(4,_),(5,_),(6,_),(8,_),(12,_),(13,.int .i64 (j:Int)),(14,.int .i64 (k:Int))] (.cl b12 [.string ⟨(tN u).toArray⟩,.string ⟨(tD u).toArray⟩] _::_) _
          repeat' first|refine Kz ?_|intro _
          (refine Kx (fun hc=>?_) fun hc=>?_)
          ·obtain ⟨f,hf⟩:∃ f,fcs[k]?=some f:=⟨_,List.getElem?_eq_getElem (by omega)⟩
           have hK:=hK f hf
           have hme:=hme f hf
           have hfo:=hfg f (List.mem_of_getElem? hf)
           generalize g f=o at *
           clear hfg
           repeat' first|refine Kz ?_|intro _
           refine TL.callv rfl rfl rfl rfl (hme _) ?_
           rintro _ _ ⟨⟨x,z,rfl,hxz⟩,rfl⟩
           clear hme
           cases o with
           | none =>
                have hK':firstK g fcs (k+1)=some (u,j):=hK
                rw [show (none:Option Rat).isSome=false from rfl]
                repeat' first|refine Kz ?_|intro _
                exact Post.round (k+1) (by omega) (by omega) (by rw [hK'];show Sub _ [_,_,_,_,_,_,(13,.int .i64 (j:Int)),_];(exact Zad)) (by rw [hK'];show Ents _ (.cl b12 [.string ⟨(tN u).toArray⟩,.string ⟨(tD u).toArray⟩] _::_);(exact Zaa))
           | some t =>
                obtain ⟨rfl,rfl⟩:=hxz t rfl
                have hft:=hfo t rfl
                have hK':firstK g fcs (k+1)=if t < u then some (t,k) else some (u,j):=hK
                rw [show (some t:Option Rat).isSome=true from rfl]
                repeat' first|refine Kz ?_|intro _
                refine Ks rfl (Zdr hft hb) ?_
                by_cases hl:t < u
                ·rw [decide_eq_true hl]
                 rw [if_pos hl] at hK'
                 repeat' first|refine Kz ?_|intro _
                 exact Post.round (k+1) (by omega) (by omega) (by rw [hK'];show Sub _ [_,_,_,_,_,_,(13,.int .i64 (k:Int)),_];(exact Zad)) (by rw [hK'];show Ents _ (.cl b12 [.string ⟨(tN t).toArray⟩,.string ⟨(tD t).toArray⟩] _::_);(exact Zaa))
                ·rw [decide_eq_false hl]
                 rw [if_neg hl] at hK'
                 repeat' first|refine Kz ?_|intro _
                 exact Post.round (k+1) (by omega) (by omega) (by rw [hK'];show Sub _ [_,_,_,_,_,_,(13,.int .i64 (j:Int)),_];(exact Zad)) (by rw [hK'];show Ents _ (.cl b12 [.string ⟨(tN u).toArray⟩,.string ⟨(tD u).toArray⟩] _::_);(exact Zaa))
          ·rw [hend (by omega)]
           repeat' first|refine Kz ?_|intro _
           exact Kv
 ·rw [show chkW pts fcs p=350 from if_pos hfl,show rayW pts fcs p q y=.inl 350 from if_pos hfl]
  repeat' first|refine Kz ?_|intro _
  exact Kv
end Go.Proofs.YtngcfjfaobcpmaaGreatDoor

/- Walks: the reference of the chapter on insides: determinants, corners, limits, errors. -/
import Derived.Test.YtngcfjfaobcpmaaGreatDoorIx7
import Derived.Test.YtngcfjfaobcpmaaGreatDoorMr1
set_option maxHeartbeats 1000000
namespace Go.Proofs.YtngcfjfaobcpmaaGreatDoor
open Go Go.Sx
variable {w0:World} {As:List Ent} {pv fv:Value} {pts fcs:List V3}
theorem Zhi {u v w:V3} {l m n:Int} (hu:u.in l) (hv:v.in m) (hw:w.in n) (g0:0≤l) (g1:0≤m) (g2:0≤n) (hb:3 * (l * (2 * (m * n)))≤9223372036854775807) (hc:2 * (m * n)≤9223372036854775807) :
  CQ Tryz.prog w0 193 [u.val,v.val,w.val] As (.int .i64 (det3 u v w)):=by
 have hx:=Zbv g1 g2 hv hw
 have g3:0≤m * n:=Int.mul_nonneg g1 g2
 refine Zab Tryz.func193 rfl Tryz.ntmps193 rfl ?_
 show Tri _ _ _ _ (env0 0 [.agg #[.int .i64 u.x,.int .i64 u.y,.int .i64 u.z],.agg #[.int .i64 v.x,.int .i64 v.y,.int .i64 v.z],.agg #[.int .i64 w.x,.int .i64 w.y,.int .i64 w.z]]) _ _
 repeat' first|refine Kz ?_|intro _
 rename_i b0 b1 b2
 refine Zaf [.cl b0 [.int .i64 u.x,.int .i64 u.y,.int .i64 u.z] 33,.cl b1 [.int .i64 v.x,.int .i64 v.y,.int .i64 v.z] 33,.cl b2 [.int .i64 w.x,.int .i64 w.y,.int .i64 w.z] 33] [] (.take 0 (.take 1 (.take 2 (.all [(3,.all [(4,.take 5 (.done))])])))) ?_
 repeat' first|refine Kf ?_|intro _|constructor
 refine Ku rfl (Zcv (p:=v) (q:=w) hv hw g1 g2 hc) ?_
 repeat' first|refine Kf ?_|intro _|constructor
 refine Ku rfl (Zn2 (p:=u) (q:=v.cross w) hu hx g0 (by omega) hb) ?_
 repeat' first|refine Kf ?_|intro _|constructor
 exact Kv
theorem Zfn {n:Int}:CQ Tryz.prog w0 146 [.int .i64 n] As (.int .i64 n.sign):=by
 refine Zab Tryz.func146 rfl Tryz.ntmps146 rfl ?_
 rcases Int.lt_trichotomy n 0 with h|h|h
 ·rw [Int.sign_eq_neg_one_of_neg h]
  repeat' first|refine Kz ?_|intro _
  exact Kv
 ·subst h
  repeat' first|refine Kz ?_|intro _
  exact Kv
 ·rw [Int.sign_eq_one_of_pos h]
  repeat' first|refine Kz ?_|intro _
  exact Kv
theorem Znc {p:V3}:CQ Tryz.prog w0 88 [p.val] As (.bool (!isFar p)):=by
 refine Zab Tryz.func88 rfl Tryz.ntmps88 rfl ?_
 show Tri _ _ _ _ (env0 0 [.agg #[.int .i64 p.x,.int .i64 p.y,.int .i64 p.z]]) _ _
 repeat' first|refine Kz ?_|intro _
 refine Zah 4 ?_
 (repeat' (first|((show TL _ _ _ _ (_::_) _ _ _;first|refine Zgi ?_|refine Zgg ?_|(refine Zdl ?_;intro _)|(refine Zdx ?_;first|rintro _ _ ⟨rfl,rfl⟩|rintro _ _ rfl)|refine Zb8 ?_|refine Zbm ?_|refine Zgh ?_|fail))|(refine Stp.h ?_)|((show Tri _ _ _ (.cond _ _ _) _ _ _;first|refine Zb6 ?_|refine Zb7 ?_|refine Zau ?_|refine Zav ?_|refine Zar ?_|refine Zas ?_|fail))|(first|refine Zbi rfl rfl (fun hgs=>?_) (fun hgs=>?_)|refine Za7 rfl rfl (fun hgs=>?_) (fun hgs=>?_)|refine Zbh rfl rfl rfl (fun hgs=>?_) (fun hgs=>?_)|refine Za6 rfl rfl rfl (fun hgs=>?_) (fun hgs=>?_))|(refine Kx (fun hc=>?_) fun hc=>?_)))
 all_goals
  (refine Zac ?_)
  refine ⟨_,⟨?_,rfl⟩,Zaa⟩
  rw [Value.bool.injEq]
  simp [isFar]
  omega
def chkW (P F:List V3) (p:V3):Int:=if (flawM P F).1≠0 then 350 else if isFar p then 2 else 0
theorem Zng {p:V3} [RdIn As fv V3 cV3 fcs] [RdIn As pv V3 cV3 pts] :
  CQ Tryz.prog w0 87 [.agg #[pv,fv],p.val] As (.int .i64 (chkW pts fcs p)):=by
 refine Zab Tryz.func87 rfl Tryz.ntmps87 rfl ?_
 show Tri _ _ _ _ (env0 0 [.agg #[pv,fv],.agg #[.int .i64 p.x,.int .i64 p.y,.int .i64 p.z]]) _ _
 unfold chkW
 repeat' first|refine Kz ?_|intro _
 refine Ks rfl (Zhy (pv:=pv) (fv:=fv) (pts:=pts) (fcs:=fcs)) ?_
 by_cases hfl:(flawM pts fcs).1=0
 ·rw [if_neg (fun h=>h hfl),show chkM pts fcs=0 from if_pos hfl]
  repeat' first|refine Kz ?_|intro _
  refine Ks rfl (Znc (p:=p)) ?_
  cases hfar:isFar p with
  | true =>
   rw [if_pos rfl]
   repeat' first|refine Kz ?_|intro _
   exact Kv
  | false =>
   rw [if_neg (by decide)]
   repeat' first|refine Kz ?_|intro _
   exact Kv
 ·rw [if_pos hfl,show chkM pts fcs=350 from if_neg hfl]
  repeat' first|refine Kz ?_|intro _
  exact Kv
theorem Zgr {k:Nat} {f p:V3} (hf:fcs[k]?=some f) (hs:Seeable pts fcs p) [RdIn As fv V3 cV3 fcs] [RdIn As pv V3 cV3 pts] :
  CQ Tryz.prog w0 139 [.agg #[pv,fv],.int .i64 (k:Int),p.val] As (.tuple #[(relV pts p f.x).val,(relV pts p f.y).val,(relV pts p f.z).val]):=by
 have hlF:=hs.lenF
 have hlP:=hs.lenP
 have hk:=(List.getElem?_eq_some_iff.1 hf).1
 have hfm:f∈fcs:=List.mem_of_getElem? hf
 obtain ⟨i1,i2,i3,i4,i5,i6⟩:=hs.idx f hfm
 obtain ⟨q1,q2,q3,e1,e2,e3,n1,n2,n3,r1,r2,r3⟩:=hs.pt hfm
 have np:=hs.at_
 rw [r1,r2,r3]
 clear r1 r2 r3 hfm
 obtain ⟨x,hx⟩:∃ i:Nat,f.x=(i:Int):=⟨f.x.toNat,by omega⟩
 obtain ⟨y,hy'⟩:∃ i:Nat,f.y=(i:Int):=⟨f.y.toNat,by omega⟩
 obtain ⟨z,hz⟩:∃ i:Nat,f.z=(i:Int):=⟨f.z.toNat,by omega⟩
 obtain ⟨fx,fy,fz⟩:=f
 simp only at hx hy' hz i1 i2 i3 i4 i5 i6 e1 e2 e3
 subst hx hy' hz
 rw [Int.toNat_natCast] at e1 e2 e3
 refine Zab Tryz.func139 rfl Tryz.ntmps139 rfl ?_
 show Tri _ _ _ _ (env0 0 [.agg #[pv,fv],.int .i64 (k:Int),.agg #[.int .i64 p.x,.int .i64 p.y,.int .i64 p.z]]) _ _
 repeat' first|refine Kz ?_|intro _
 rename_i b3 b5 b6 b7 b8 b9
 refine Zaf (.cl b3 [pv,fv] 36::.cl b9 [.int .i64 (x:Int),.int .i64 (y:Int),.int .i64 (z:Int)] 33::.cl b5 [.int .i64 p.x,.int .i64 p.y,.int .i64 p.z] 33::As) [] (.take 0 (.take 1 (.take 2 (.take 3 (.take 4 (.take 5 (.take 6 (.take 8 (.take 9 (.take 10 (.take 11 (.take 12 (.take 13 (.take 14 (.take 16 (.take 17 (.take 18 (.take 19 (.take 20 (.take 21 (.take 22 (.all [(7,.all [(15,.all [(23,.all [(24,.all [(25,.all [(26,.done)])])])])])])))))))))))))))))))))) ?_
 repeat' first|refine Kf ?_|intro _|constructor
 refine Ku rfl (Zcb (p:=q1) (q:=p) n1 np (by decide)) ?_
 repeat' first|refine Kf ?_|intro _|constructor
 refine Ku rfl (Zcb (p:=q2) (q:=p) n2 np (by decide)) ?_
 repeat' first|refine Kf ?_|intro _|constructor
 refine Ku rfl (Zcb (p:=q3) (q:=p) n3 np (by decide)) ?_
 repeat' first|refine Kf ?_|intro _|constructor
 exact Kv
end Go.Proofs.YtngcfjfaobcpmaaGreatDoor
namespace Go.Sx
open Go
theorem Zuf (n:V3):axR n=0∨axR n=1∨axR n=2:=by
 unfold axR
 (repeat' split)<;>simp
theorem Good.right {P F:List V3} (hg:Good P F) {f:V3} (hf:f∈F):isWrong P.length f=false:=List.findIdx?_eq_none_iff.1 hg.wrong f hf
end Go.Sx
namespace Go.Proofs.YtngcfjfaobcpmaaGreatDoor
open Go Go.Sx
variable {w0:World} {As:List Ent} {pv fv:Value} {pts fcs:List V3}
theorem Zxv {k:Nat} {f:V3} (hf:fcs[k]?=some f) (hw:isWrong pts.length f=false) (hfar:∀ p∈pts,p.in 200000) [RdIn As fv V3 cV3 fcs] [RdIn As pv V3 cV3 pts] :
  CQ Tryz.prog w0 144 [.agg #[pv,fv],.int .i64 (k:Int)] As (.int .i64 ((axR (normal pts f):Nat):Int)):=by
 refine Zab Tryz.func144 rfl Tryz.ntmps144 rfl ?_
 repeat' first|refine Kz ?_|intro _
 refine Ks rfl (Zif (n:=k) hf hw hfar) ?_
 generalize normal pts f=n
 show TL _ _ _ _ _ ((_,.agg #[.int .i64 n.x,.int .i64 n.y,.int .i64 n.z])::_) _ _
 repeat' first|refine Kz ?_|intro _
 refine Zah 4 ?_
 (repeat' (first|((show TL _ _ _ _ (_::_) _ _ _;first|refine Zgi ?_|refine Zgg ?_|(refine Zdl ?_;intro _)|(refine Zdx ?_;first|rintro _ _ ⟨rfl,rfl⟩|rintro _ _ rfl)|refine Zb8 ?_|refine Zbm ?_|refine Zgh ?_|fail))|(refine Stp.h ?_)|((show Tri _ _ _ (.cond _ _ _) _ _ _;first|refine Zb6 ?_|refine Zb7 ?_|refine Zau ?_|refine Zav ?_|refine Zar ?_|refine Zas ?_|fail))|(first|refine Zbi rfl rfl (fun hgs=>?_) (fun hgs=>?_)|refine Za7 rfl rfl (fun hgs=>?_) (fun hgs=>?_)|refine Zbh rfl rfl rfl (fun hgs=>?_) (fun hgs=>?_)|refine Za6 rfl rfl rfl (fun hgs=>?_) (fun hgs=>?_))|(refine Kx (fun hc=>?_) fun hc=>?_)))
 all_goals
  (refine Zac ?_)
  refine ⟨_,⟨?_,rfl⟩,Zaa⟩
  rw [Value.int.injEq]
  refine ⟨rfl,?_⟩
  unfold axR
  (repeat' split)<;>first|rfl|omega
theorem Zzs {k:Nat} {f p:V3} (hf:fcs[k]?=some f) (hw:isWrong pts.length f=false) (hs:Seeable pts fcs p) [RdIn As fv V3 cV3 fcs] [RdIn As pv V3 cV3 pts] :
  CallsS Tryz.prog w0 224 [.agg #[pv,fv],.int .i64 (k:Int),p.val] As fun r Bs =>
   r=.bool (decide (0≤hfU (axR (normal pts f)) (normal pts f) (relV pts p f.x) (relV pts p f.y))&&decide (0≤hfU (axR (normal pts f)) (normal pts f) (relV pts p f.y) (relV pts p f.z))&&decide (0≤hfU (axR (normal pts f)) (normal pts f) (relV pts p f.z) (relV pts p f.x)))∧Bs=As:=by
 obtain ⟨g1,g2,g3⟩:=hs.rel (List.mem_of_getElem? hf)
 have hfar:=hs.pts
 refine Zab Tryz.func224 rfl Tryz.ntmps224 rfl ?_
 show Tri _ _ _ _ (env0 0 [.agg #[pv,fv],.int .i64 (k:Int),.agg #[.int .i64 p.x,.int .i64 p.y,.int .i64 p.z]]) _ _
 repeat' first|refine Kz ?_|intro _
 refine Ks rfl (Zgr (k:=k) (p:=p) hf hs) ?_
 have hax:=fun Bs [RdIn Bs fv V3 cV3 fcs] [RdIn Bs pv V3 cV3 pts]=>Zxv (w0:=w0) (As:=Bs) (pv:=pv) (fv:=fv) (k:=k) hf hw hfar
 have hno:=fun Bs [RdIn Bs fv V3 cV3 fcs] [RdIn Bs pv V3 cV3 pts]=>Zif (w0:=w0) (As:=Bs) (pv:=pv) (fv:=fv) (n:=k) hf hw hfar
 generalize relV pts p f.x=a at *
 generalize relV pts p f.y=b at *
 generalize relV pts p f.z=c at *
 generalize normal pts f=n at *
 show TL _ _ _ _ _ ((_,.tuple #[.agg #[.int .i64 a.x,.int .i64 a.y,.int .i64 a.z],.agg #[.int .i64 b.x,.int .i64 b.y,.int .i64 b.z],.agg #[.int .i64 c.x,.int .i64 c.y,.int .i64 c.z]])::_) _ _
 repeat' first|refine Kz ?_|intro _
 refine Ks rfl (hax _) ?_
 repeat' first|refine Kz ?_|intro _
 refine Ks rfl (hno _) ?_
 show TL _ _ _ _ _ ((_,.agg #[.int .i64 n.x,.int .i64 n.y,.int .i64 n.z])::_) _ _
 clear hax hno hf hw hs hfar
 obtain ⟨x1,x2,x3,x4,x5,x6⟩:=Zbv (by decide) (by decide) g1 g2
 obtain ⟨y1,y2,y3,y4,y5,y6⟩:=Zbv (by decide) (by decide) g2 g3
 obtain ⟨z1,z2,z3,z4,z5,z6⟩:=Zbv (by decide) (by decide) g3 g1
 have c1:=fun Bs=>Zcv (w0:=w0) (As:=Bs) g1 g2 (by decide) (by decide) (by decide)
 have c2:=fun Bs=>Zcv (w0:=w0) (As:=Bs) g2 g3 (by decide) (by decide) (by decide)
 have c3:=fun Bs=>Zcv (w0:=w0) (As:=Bs) g3 g1 (by decide) (by decide) (by decide)
 have e1:∀ k,hfU k n a b=(n.proj k).sign * (a.cross b).proj k:=fun _=>rfl
 have e2:∀ k,hfU k n b c=(n.proj k).sign * (b.cross c).proj k:=fun _=>rfl
 have e3:∀ k,hfU k n c a=(n.proj k).sign * (c.cross a).proj k:=fun _=>rfl
 rw [e1,e2,e3]
 clear e1 e2 e3
 generalize a.cross b=u at *
 generalize b.cross c=v at *
 generalize c.cross a=w at *
 rcases Zuf n with hk|hk|hk
 ·have hp:n.proj (axR n)=n.x:=by rw [hk];rfl
  rw [hp,hk,show u.proj 0=u.x from rfl,show v.proj 0=v.x from rfl,show w.proj 0=w.x from rfl]
  repeat' first|refine Kz ?_|intro _
  refine Kt rfl Zfn ?_
  have m1:=Zbw (Zc8 n.x) ⟨x1,x2⟩
  have m2:=Zbw (Zc8 n.x) ⟨y1,y2⟩
  have m3:=Zbw (Zc8 n.x) ⟨z1,z2⟩
  generalize n.x.sign=σ at *
  repeat' first|refine Kz ?_|intro _
  refine Ks rfl (c1 _) ?_
  show TL _ _ _ _ _ ((_,.agg #[.int .i64 u.x,.int .i64 u.y,.int .i64 u.z])::_) _ _
  by_cases q1:0≤σ * u.x
  ·rw [decide_eq_true q1]
   repeat' first|refine Kz ?_|intro _
   refine Ks rfl (c2 _) ?_
   show TL _ _ _ _ _ ((_,.agg #[.int .i64 v.x,.int .i64 v.y,.int .i64 v.z])::_) _ _
   by_cases q2:0≤σ * v.x
   ·rw [decide_eq_true q2]
    repeat' first|refine Kz ?_|intro _
    refine Ks rfl (c3 _) ?_
    show TL _ _ _ _ _ ((_,.agg #[.int .i64 w.x,.int .i64 w.y,.int .i64 w.z])::_) _ _
    repeat' first|refine Kz ?_|intro _
    (refine Zac ?_)
    refine ⟨_,⟨?_,rfl⟩,Zaa⟩
    simp
   ·rw [decide_eq_false q2]
    repeat' first|refine Kz ?_|intro _
    exact Kv
  ·rw [decide_eq_false q1]
   repeat' first|refine Kz ?_|intro _
   exact Kv
 ·have hp:n.proj (axR n)=n.y:=by rw [hk];rfl
  rw [hp,hk,show u.proj 1=u.y from rfl,show v.proj 1=v.y from rfl,show w.proj 1=w.y from rfl]
  repeat' first|refine Kz ?_|intro _
  refine Kt rfl Zfn ?_
  have m1:=Zbw (Zc8 n.y) ⟨x3,x4⟩
  have m2:=Zbw (Zc8 n.y) ⟨y3,y4⟩
  have m3:=Zbw (Zc8 n.y) ⟨z3,z4⟩
  generalize n.y.sign=σ at *
  repeat' first|refine Kz ?_|intro _
  refine Ks rfl (c1 _) ?_
  show TL _ _ _ _ _ ((_,.agg #[.int .i64 u.x,.int .i64 u.y,.int .i64 u.z])::_) _ _
  by_cases q1:0≤σ * u.y
  ·rw [decide_eq_true q1]
   repeat' first|refine Kz ?_|intro _
   refine Ks rfl (c2 _) ?_
   show TL _ _ _ _ _ ((_,.agg #[.int .i64 v.x,.int .i64 v.y,.int .i64 v.z])::_) _ _
   by_cases q2:0≤σ * v.y
   ·rw [decide_eq_true q2]
    repeat' first|refine Kz ?_|intro _
    refine Ks rfl (c3 _) ?_
    show TL _ _ _ _ _ ((_,.agg #[.int .i64 w.x,.int .i64 w.y,.int .i64 w.z])::_) _ _
    repeat' first|refine Kz ?_|intro _
    (refine Zac ?_)
    refine ⟨_,⟨?_,rfl⟩,Zaa⟩
    simp
   ·rw [decide_eq_false q2]
    repeat' first|refine Kz ?_|intro _
    exact Kv
  ·rw [decide_eq_false q1]
   repeat' first|refine Kz ?_|intro _
   exact Kv
 ·have hp:n.proj (axR n)=n.z:=by rw [hk];rfl
  rw [hp,hk,show u.proj 2=u.z from rfl,show v.proj 2=v.z from rfl,show w.proj 2=w.z from rfl]
  repeat' first|refine Kz ?_|intro _
  refine Kt rfl Zfn ?_
  have m1:=Zbw (Zc8 n.z) ⟨x5,x6⟩
  have m2:=Zbw (Zc8 n.z) ⟨y5,y6⟩
  have m3:=Zbw (Zc8 n.z) ⟨z5,z6⟩
  generalize n.z.sign=σ at *
  repeat' first|refine Kz ?_|intro _
  refine Ks rfl (c1 _) ?_
  show TL _ _ _ _ _ ((_,.agg #[.int .i64 u.x,.int .i64 u.y,.int .i64 u.z])::_) _ _
  by_cases q1:0≤σ * u.z
  ·rw [decide_eq_true q1]
   repeat' first|refine Kz ?_|intro _
   refine Ks rfl (c2 _) ?_
   show TL _ _ _ _ _ ((_,.agg #[.int .i64 v.x,.int .i64 v.y,.int .i64 v.z])::_) _ _
   by_cases q2:0≤σ * v.z
   ·rw [decide_eq_true q2]
    repeat' first|refine Kz ?_|intro _
    refine Ks rfl (c3 _) ?_
    show TL _ _ _ _ _ ((_,.agg #[.int .i64 w.x,.int .i64 w.y,.int .i64 w.z])::_) _ _
    repeat' first|refine Kz ?_|intro _
    (refine Zac ?_)
    refine ⟨_,⟨?_,rfl⟩,Zaa⟩
    simp
   ·rw [decide_eq_false q2]
    repeat' first|refine Kz ?_|intro _
    exact Kv
  ·rw [decide_eq_false q1]
   repeat' first|refine Kz ?_|intro _
   exact Kv
theorem Yav {k:Nat} {f p:V3} (hf:fcs[k]?=some f) (hw:isWrong pts.length f=false) (hs:Seeable pts fcs p) [RdIn As fv V3 cV3 fcs] [RdIn As pv V3 cV3 pts] :
  CallsS Tryz.prog w0 192 [.agg #[pv,fv],.int .i64 (k:Int),p.val] As fun r Bs =>
   r=.bool (onT axR (relV pts p f.x) (relV pts p f.y) (relV pts p f.z))∧Bs=As:=by
 obtain ⟨g1,g2,g3⟩:=hs.rel (List.mem_of_getElem? hf)
 refine Zab Tryz.func192 rfl Tryz.ntmps192 rfl ?_
 show Tri _ _ _ _ (env0 0 [.agg #[pv,fv],.int .i64 (k:Int),.agg #[.int .i64 p.x,.int .i64 p.y,.int .i64 p.z]]) _ _
 repeat' first|refine Kz ?_|intro _
 refine Ks rfl (Zgr (k:=k) (p:=p) hf hs) ?_
 have hwi:=fun Bs [RdIn Bs fv V3 cV3 fcs] [RdIn Bs pv V3 cV3 pts]=>Zzs (w0:=w0) (As:=Bs) (pv:=pv) (fv:=fv) (k:=k) (p:=p) hf hw hs
 have hon:onT axR (relV pts p f.x) (relV pts p f.y) (relV pts p f.z)=(decide (det3 (relV pts p f.x) (relV pts p f.y) (relV pts p f.z)=0)&&(decide (0≤hfU (axR (normal pts f)) (normal pts f) (relV pts p f.x) (relV pts p f.y))&&decide (0≤hfU (axR (normal pts f)) (normal pts f) (relV pts p f.y) (relV pts p f.z))&&decide (0≤hfU (axR (normal pts f)) (normal pts f) (relV pts p f.z) (relV pts p f.x)))):=by
  unfold onT holdsM
  rw [Zvv]
  simp only [Bool.decide_and,Bool.and_assoc]
 rw [hon]
 clear hon
 generalize (decide (0≤hfU (axR (normal pts f)) (normal pts f) (relV pts p f.x) (relV pts p f.y))&&decide (0≤hfU (axR (normal pts f)) (normal pts f) (relV pts p f.y) (relV pts p f.z))&&decide (0≤hfU (axR (normal pts f)) (normal pts f) (relV pts p f.z) (relV pts p f.x)))=Y at *
 generalize relV pts p f.x=a at *
 generalize relV pts p f.y=b at *
 generalize relV pts p f.z=c at *
 show TL _ _ _ _ _ ((_,.tuple #[.agg #[.int .i64 a.x,.int .i64 a.y,.int .i64 a.z],.agg #[.int .i64 b.x,.int .i64 b.y,.int .i64 b.z],.agg #[.int .i64 c.x,.int .i64 c.y,.int .i64 c.z]])::_) _ _
 repeat' first|refine Kz ?_|intro _
 refine Ks rfl (Zhi (u:=a) (v:=b) (w:=c) g1 g2 g3 (by decide) (by decide) (by decide) (by decide) (by decide)) ?_
 generalize det3 a b c=D
 by_cases hD:D=0
 ·rw [decide_eq_true hD]
  repeat' first|refine Kz ?_|intro _
  refine Ks rfl (hwi _) ?_
  repeat' first|refine Kz ?_|intro _
  (refine Zac ?_)
  exact ⟨_,⟨by simp,rfl⟩,Zaa⟩
 ·rw [decide_eq_false hD]
  repeat' first|refine Kz ?_|intro _
  exact Kv
end Go.Proofs.YtngcfjfaobcpmaaGreatDoor
namespace Go.Sx
open Go
structure PlaceA where
 a0:Int
 a1:Int
 a2:Int
 w0:Int
 w1:Int
 w2:Int
 o0:Int
 o1:Int
 o2:Int
def PlaceA.ok (x:PlaceA):Prop:=((0≤x.a0∧x.a0≤255)∧(0≤x.a1∧x.a1≤255)∧(0≤x.a2∧x.a2≤255))∧((0≤x.w0∧x.w0≤255)∧(0≤x.w1∧x.w1≤255)∧(0≤x.w2∧x.w2≤255))∧((-32768≤x.o0∧x.o0≤32767)∧(-32768≤x.o1∧x.o1≤32767)∧(-32768≤x.o2∧x.o2≤32767))
def PlaceA.cells (x:PlaceA):List Value:=[.int .u8 x.a0,.int .u8 x.a1,.int .u8 x.a2,.int .u8 x.w0,.int .u8 x.w1,.int .u8 x.w2,.int .i16 x.o0,.int .i16 x.o1,.int .i16 x.o2]
def clampI (v:Int):Int:=if -200000 < (if v < 200000 then v else 200000) then (if v < 200000 then v else 200000) else -200000
theorem Zp6 (v:Int):(if -200000 < (if v < 200000 then v else 200000) then (if v < 200000 then v else 200000) else -200000)=clampI v:=rfl
theorem Ziq {v c:Int} (h:clampI v=c):-200000≤c∧c≤200000:=by
 subst h
 unfold clampI
 (repeat' split)<;>omega
end Go.Sx
namespace Go.Proofs.YtngcfjfaobcpmaaGreatDoor
open Go Go.Sx
variable {w0:World} {As:List Ent} {pv fv:Value} {pts fcs:List V3}
theorem Zca {x:PlaceA} (hx:x.ok) (hg:Sx.Good pts fcs) [RdIn As pv V3 cV3 pts] :
  CallsS Tryz.prog w0 12 [.agg #[.int .u8 x.a0,.int .u8 x.a1,.int .u8 x.a2,.int .u8 x.w0,.int .u8 x.w1,.int .u8 x.w2,.int .i16 x.o0,.int .i16 x.o1,.int .i16 x.o2],.agg #[pv,fv]] As
   fun r Bs=>∃ p:V3,isFar p=false∧r=p.val∧Bs=As:=by
 refine Zab Tryz.func12 rfl Tryz.ntmps12 rfl ?_
 have hl:=hg.p300
 have hl4:=hg.p4
 have hfar:∀ q∈pts,q.in 200000:=fun q hq=>Zb2 (List.findIdx?_eq_none_iff.1 hg.far q hq)
 obtain ⟨⟨a0,a1,a2⟩,⟨u0,u1,u2⟩,⟨o0,o1,o2⟩⟩:=hx
 repeat' first|refine Kz ?_|intro _
 rename_i b2 b3 b4 b5
 refine Tri.loop (ι:=Nat × V3 × Int) (fun s=>s.1≤3∧s.2.1.in (1400000 * (s.1:Int))∧0≤s.2.2∧s.2.2≤7 * (s.1:Int)) (fun s=>3 - s.1)
  (fun s=>[(2,.pointer (some ⟨b2,0,none⟩)),(3,.pointer (some ⟨b3,0,none⟩)),(4,.pointer (some ⟨b4,0,none⟩)),(5,.pointer (some ⟨b5,0,none⟩)),(6,.int .i64 s.2.2),(7,.int .i64 (s.1:Int))])
  (fun s=>.cl b5 [.int .i64 s.2.1.x,.int .i64 s.2.1.y,.int .i64 s.2.1.z] 33::.cl b4 [.int .i64 0,.int .i64 0,.int .i64 0] 33::.cl b3 [pv,fv] 36::.cl b2 [.int .u8 x.a0,.int .u8 x.a1,.int .u8 x.a2,.int .u8 x.w0,.int .u8 x.w1,.int .u8 x.w2,.int .i16 x.o0,.int .i16 x.o1,.int .i16 x.o2] 32::As) (0,V3.zero,0) ⟨by decide,by simp [V3.zero,V3.in],by decide,by decide⟩ Zad (by show Ents _ (.cl b5 [.int .i64 0,.int .i64 0,.int .i64 0] _::_);(exact Zaa)) ?_
 rintro ⟨i,s,n⟩ ⟨hi,hs,hn0,hn1⟩
 simp only at hi hs hn0 hn1
 show Tri _ _ _ _ [(2,_),(3,_),(4,_),(5,_),(6,.int .i64 n),(7,.int .i64 (i:Int))] (.cl b5 [.int .i64 s.x,.int .i64 s.y,.int .i64 s.z] _::_) _
 obtain ⟨s1,s2,s3,s4,s5,s6⟩:=hs
 rcases (show i=0∨i=1∨i=2∨i=3 by omega) with rfl|rfl|rfl|rfl
 ·have hW:0≤x.w0 % 8∧x.w0 % 8≤7:=by omega
  have hj0:=Int.emod_nonneg x.a0 (show (pts.length:Int)≠0 by omega)
  have hj1:=Int.emod_lt_of_pos x.a0 (show (0:Int) < pts.length by omega)
  obtain ⟨j,hj⟩:∃ j:Nat,x.a0 % (pts.length:Int)=(j:Int):=⟨(x.a0 % (pts.length:Int)).toNat,(Int.toNat_of_nonneg hj0).symm⟩
  rw [hj] at hj0 hj1
  obtain ⟨q,hq⟩:∃ q,pts[j]?=some q:=⟨_,List.getElem?_eq_getElem (by omega)⟩
  obtain ⟨q1,q2,q3,q4,q5,q6⟩:=hfar q (List.mem_of_getElem? hq)
  repeat' first|refine Kz ?_|intro _
  generalize x.w0 % 8=W at *
  have m1:=Zat (m:=7) (n:=200000) (by decide) (by decide) (show -7≤W by omega) hW.2 q1 q2
  have m2:=Zat (m:=7) (n:=200000) (by decide) (by decide) (show -7≤W by omega) hW.2 q3 q4
  have m3:=Zat (m:=7) (n:=200000) (by decide) (by decide) (show -7≤W by omega) hW.2 q5 q6
  refine Zaf (.cl b3 [pv,fv] 36::.cl b2 [.int .u8 x.a0,.int .u8 x.a1,.int .u8 x.a2,.int .u8 x.w0,.int .u8 x.w1,.int .u8 x.w2,.int .i16 x.o0,.int .i16 x.o1,.int .i16 x.o2] 32::As) [] (.take 0 (.take 1 (.take 2 (.take 3 (.take 4 (.take 5 (.take 6 (.take 7 (.take 8 (.take 9 (.take 10 (.take 11 (.take 12 (.all [(13,.all [(14,.done)])])))))))))))))) ?_
  repeat' first|refine Kf ?_|intro _|constructor
  rw [hj]
  repeat' first|refine Kf ?_|intro _|constructor
  refine Zah 4 ?_
  iterate 3
   repeat' first|refine Kf ?_|intro _|constructor
   refine Zam (.take 0 (.take 1 (.take 2 (.take 3 (.take 4 (.take 5 (.take 6 (.take 7 (.take 8 (.take 9 (.take 10 (.all [(11,.done)])))))))))))) ?_
  repeat' first|refine Kf ?_|intro _|constructor
  refine Post.round (1,⟨s.x+W * q.x,s.y+W * q.y,s.z+W * q.z⟩,n+W) ⟨by simp only;omega,⟨by simp only;omega,by simp only;omega,by simp only;omega,by simp only;omega,by simp only;omega,by simp only;omega⟩,by simp only;omega,by simp only;omega⟩ (by simp only;omega) Zad Zaa
 ·have hW:0≤x.w1 % 8∧x.w1 % 8≤7:=by omega
  have hj0:=Int.emod_nonneg x.a1 (show (pts.length:Int)≠0 by omega)
  have hj1:=Int.emod_lt_of_pos x.a1 (show (0:Int) < pts.length by omega)
  obtain ⟨j,hj⟩:∃ j:Nat,x.a1 % (pts.length:Int)=(j:Int):=⟨(x.a1 % (pts.length:Int)).toNat,(Int.toNat_of_nonneg hj0).symm⟩
  rw [hj] at hj0 hj1
  obtain ⟨q,hq⟩:∃ q,pts[j]?=some q:=⟨_,List.getElem?_eq_getElem (by omega)⟩
  obtain ⟨q1,q2,q3,q4,q5,q6⟩:=hfar q (List.mem_of_getElem? hq)
  repeat' first|refine Kz ?_|intro _
  generalize x.w1 % 8=W at *
  have m1:=Zat (m:=7) (n:=200000) (by decide) (by decide) (show -7≤W by omega) hW.2 q1 q2
  have m2:=Zat (m:=7) (n:=200000) (by decide) (by decide) (show -7≤W by omega) hW.2 q3 q4
  have m3:=Zat (m:=7) (n:=200000) (by decide) (by decide) (show -7≤W by omega) hW.2 q5 q6
  refine Zaf (.cl b3 [pv,fv] 36::.cl b2 [.int .u8 x.a0,.int .u8 x.a1,.int .u8 x.a2,.int .u8 x.w0,.int .u8 x.w1,.int .u8 x.w2,.int .i16 x.o0,.int .i16 x.o1,.int .i16 x.o2] 32::As) [] (.take 0 (.take 1 (.take 2 (.take 3 (.take 4 (.take 5 (.take 6 (.take 7 (.take 8 (.take 9 (.take 10 (.take 11 (.take 12 (.all [(13,.all [(14,.done)])])))))))))))))) ?_
  repeat' first|refine Kf ?_|intro _|constructor
  rw [hj]
  repeat' first|refine Kf ?_|intro _|constructor
  refine Zah 4 ?_
  iterate 3
   repeat' first|refine Kf ?_|intro _|constructor
   refine Zam (.take 0 (.take 1 (.take 2 (.take 3 (.take 4 (.take 5 (.take 6 (.take 7 (.take 8 (.take 9 (.take 10 (.all [(11,.done)])))))))))))) ?_
  repeat' first|refine Kf ?_|intro _|constructor
  refine Post.round (2,⟨s.x+W * q.x,s.y+W * q.y,s.z+W * q.z⟩,n+W) ⟨by simp only;omega,⟨by simp only;omega,by simp only;omega,by simp only;omega,by simp only;omega,by simp only;omega,by simp only;omega⟩,by simp only;omega,by simp only;omega⟩ (by simp only;omega) Zad Zaa
 ·have hW:0≤x.w2 % 8∧x.w2 % 8≤7:=by omega
  have hj0:=Int.emod_nonneg x.a2 (show (pts.length:Int)≠0 by omega)
  have hj1:=Int.emod_lt_of_pos x.a2 (show (0:Int) < pts.length by omega)
  obtain ⟨j,hj⟩:∃ j:Nat,x.a2 % (pts.length:Int)=(j:Int):=⟨(x.a2 % (pts.length:Int)).toNat,(Int.toNat_of_nonneg hj0).symm⟩
  rw [hj] at hj0 hj1
  obtain ⟨q,hq⟩:∃ q,pts[j]?=some q:=⟨_,List.getElem?_eq_getElem (by omega)⟩
  obtain ⟨q1,q2,q3,q4,q5,q6⟩:=hfar q (List.mem_of_getElem? hq)
  repeat' first|refine Kz ?_|intro _
  generalize x.w2 % 8=W at *
  have m1:=Zat (m:=7) (n:=200000) (by decide) (by decide) (show -7≤W by omega) hW.2 q1 q2
  have m2:=Zat (m:=7) (n:=200000) (by decide) (by decide) (show -7≤W by omega) hW.2 q3 q4
  have m3:=Zat (m:=7) (n:=200000) (by decide) (by decide) (show -7≤W by omega) hW.2 q5 q6
  refine Zaf (.cl b3 [pv,fv] 36::.cl b2 [.int .u8 x.a0,.int .u8 x.a1,.int .u8 x.a2,.int .u8 x.w0,.int .u8 x.w1,.int .u8 x.w2,.int .i16 x.o0,.int .i16 x.o1,.int .i16 x.o2] 32::As) [] (.take 0 (.take 1 (.take 2 (.take 3 (.take 4 (.take 5 (.take 6 (.take 7 (.take 8 (.take 9 (.take 10 (.take 11 (.take 12 (.all [(13,.all [(14,.done)])])))))))))))))) ?_
  repeat' first|refine Kf ?_|intro _|constructor
  rw [hj]
  repeat' first|refine Kf ?_|intro _|constructor
  refine Zah 4 ?_
  iterate 3
   repeat' first|refine Kf ?_|intro _|constructor
   refine Zam (.take 0 (.take 1 (.take 2 (.take 3 (.take 4 (.take 5 (.take 6 (.take 7 (.take 8 (.take 9 (.take 10 (.all [(11,.done)])))))))))))) ?_
  repeat' first|refine Kf ?_|intro _|constructor
  refine Post.round (3,⟨s.x+W * q.x,s.y+W * q.y,s.z+W * q.z⟩,n+W) ⟨by simp only;omega,⟨by simp only;omega,by simp only;omega,by simp only;omega,by simp only;omega,by simp only;omega,by simp only;omega⟩,by simp only;omega,by simp only;omega⟩ (by simp only;omega) Zad Zaa
 ·repeat' first|refine Kz ?_|intro _
  have key:∀ v:Int,-4200000≤v∧v≤4200000→-4200000≤v.tdiv n∧v.tdiv n≤4200000:=fun v hv=>by
   have:=Int.natAbs_tdiv_le_natAbs v n
   omega
  have k1:=key s.x (by omega)
  have k2:=key s.y (by omega)
  have k3:=key s.z (by omega)
  clear key hfar hg a0 a1 a2 u0 u1 u2 hl hl4 hi
  by_cases hn0:0 < n
  ·repeat' first|refine Kz ?_|intro _
   refine Zah 4 ?_
   repeat' first|refine Kz ?_|intro _
   refine TL.f rfl rfl (ExF.quo rfl rfl (by omega)) ?_
   rw [Zbx (show IR .i64 (s.x.tdiv n) from ⟨by show -9223372036854775808≤_;omega,by show _≤9223372036854775807;omega⟩)]
   repeat' first|refine Kz ?_|intro _
   refine Zam (.take 0 (.take 1 (.take 2 (.take 3 (.take 4 (.take 5 (.take 6 (.take 7 (.take 8 (.take 9 (.take 10 (.take 11 (.take 12 (.all [(13,.done)])))))))))))))) ?_
   repeat' first|refine Kf ?_|intro _|constructor
   rw [Zp6 (s.x.tdiv n+x.o0)]
   generalize hv0:clampI (s.x.tdiv n+x.o0)=v0
   repeat' first|refine Kf ?_|intro _|constructor
   refine TL.f rfl rfl (ExF.quo rfl rfl (by omega)) ?_
   rw [Zbx (show IR .i64 (s.y.tdiv n) from ⟨by show -9223372036854775808≤_;omega,by show _≤9223372036854775807;omega⟩)]
   repeat' first|refine Kz ?_|intro _
   refine Zam (.take 0 (.take 1 (.take 2 (.take 3 (.take 4 (.take 5 (.take 6 (.take 7 (.take 8 (.take 9 (.take 10 (.take 11 (.take 12 (.all [(13,.done)])))))))))))))) ?_
   repeat' first|refine Kf ?_|intro _|constructor
   rw [Zp6 (s.y.tdiv n+x.o1)]
   generalize hv1:clampI (s.y.tdiv n+x.o1)=v1
   repeat' first|refine Kf ?_|intro _|constructor
   refine TL.f rfl rfl (ExF.quo rfl rfl (by omega)) ?_
   rw [Zbx (show IR .i64 (s.z.tdiv n) from ⟨by show -9223372036854775808≤_;omega,by show _≤9223372036854775807;omega⟩)]
   repeat' first|refine Kz ?_|intro _
   refine Zam (.take 0 (.take 1 (.take 2 (.take 3 (.take 4 (.take 5 (.take 6 (.take 7 (.take 8 (.take 9 (.take 10 (.take 11 (.take 12 (.all [(13,.done)])))))))))))))) ?_
   repeat' first|refine Kf ?_|intro _|constructor
   rw [Zp6 (s.z.tdiv n+x.o2)]
   generalize hv2:clampI (s.z.tdiv n+x.o2)=v2
   repeat' first|refine Kf ?_|intro _|constructor
   (refine Zac ?_)
   refine ⟨_,⟨⟨v0,v1,v2⟩,?_,rfl,rfl⟩,Zaa⟩
   rw [Zkb]
   have w0:=Ziq hv0
   have w1:=Ziq hv1
   have w2:=Ziq hv2
   simp only
   omega
  ·repeat' first|refine Kz ?_|intro _
   refine Zah 4 ?_
   repeat' first|refine Kz ?_|intro _
   refine Zam (.take 0 (.take 1 (.take 2 (.take 3 (.take 4 (.take 5 (.take 6 (.take 7 (.take 8 (.take 9 (.take 10 (.take 11 (.take 12 (.all [(13,.done)])))))))))))))) ?_
   repeat' first|refine Kf ?_|intro _|constructor
   rw [Zp6 (s.x+x.o0)]
   generalize hv0:clampI (s.x+x.o0)=v0
   repeat' first|refine Kf ?_|intro _|constructor
   refine Zam (.take 0 (.take 1 (.take 2 (.take 3 (.take 4 (.take 5 (.take 6 (.take 7 (.take 8 (.take 9 (.take 10 (.take 11 (.take 12 (.all [(13,.done)])))))))))))))) ?_
   repeat' first|refine Kf ?_|intro _|constructor
   rw [Zp6 (s.y+x.o1)]
   generalize hv1:clampI (s.y+x.o1)=v1
   repeat' first|refine Kf ?_|intro _|constructor
   refine Zam (.take 0 (.take 1 (.take 2 (.take 3 (.take 4 (.take 5 (.take 6 (.take 7 (.take 8 (.take 9 (.take 10 (.take 11 (.take 12 (.all [(13,.done)])))))))))))))) ?_
   repeat' first|refine Kf ?_|intro _|constructor
   rw [Zp6 (s.z+x.o2)]
   generalize hv2:clampI (s.z+x.o2)=v2
   repeat' first|refine Kf ?_|intro _|constructor
   (refine Zac ?_)
   refine ⟨_,⟨⟨v0,v1,v2⟩,?_,rfl,rfl⟩,Zaa⟩
   rw [Zkb]
   have w0:=Ziq hv0
   have w1:=Ziq hv1
   have w2:=Ziq hv2
   simp only
   omega
end Go.Proofs.YtngcfjfaobcpmaaGreatDoor

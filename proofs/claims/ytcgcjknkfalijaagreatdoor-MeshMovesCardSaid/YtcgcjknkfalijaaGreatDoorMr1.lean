/- Walks: the reference of the chapter on meshes: its small functions. -/
import Derived.Test.YtcgcjknkfalijaaGreatDoorMa4
import Derived.Test.YtcgcjknkfalijaaGreatDoorPl
import Derived.Test.YtcgcjknkfalijaaGreatDoorSxB
set_option maxHeartbeats 1000000
namespace Go.Proofs.YtcgcjknkfalijaaGreatDoor
open Go Go.Sx
variable {w0:World} {As:List Ent} {pv fv:Value} {pts fcs:List V3}
theorem Zfo {p q:V3} {m n:Int} (hp:p.in m) (hq:q.in n) (hm:m+n≤9223372036854775807) :
  CQ Tryz.prog w0 77 [p.val,q.val] As ((p.sub q).val):=by
 obtain ⟨h1,h2,h3,h4,h5,h6⟩:=hp
 obtain ⟨k1,k2,k3,k4,k5,k6⟩:=hq
 refine Zab Tryz.func77 rfl Tryz.ntmps77 rfl ?_
 repeat' first|refine Kz ?_|intro _
 exact Kv
theorem Zop {p q:V3} {m n:Int} (hp:p.in m) (hq:q.in n) (g0:0≤m) (g1:0≤n) (hm:2 * (m * n)≤9223372036854775807) :
  CQ Tryz.prog w0 76 [p.val,q.val] As ((p.cross q).val):=by
 obtain ⟨h1,h2,h3,h4,h5,h6⟩:=hp
 obtain ⟨k1,k2,k3,k4,k5,k6⟩:=hq
 have a1:=Zax g0 g1 h3 h4 k5 k6
 have a2:=Zax g0 g1 h5 h6 k3 k4
 have a3:=Zax g0 g1 h5 h6 k1 k2
 have a4:=Zax g0 g1 h1 h2 k5 k6
 have a5:=Zax g0 g1 h1 h2 k3 k4
 have a6:=Zax g0 g1 h3 h4 k1 k2
 refine Zab Tryz.func76 rfl Tryz.ntmps76 rfl ?_
 repeat' first|refine Kz ?_|intro _
 exact Kv
theorem Zsv {p:V3}:CQ Tryz.prog w0 61 [p.val] As (.bool (isFar p)):=by
 refine Zab Tryz.func61 rfl Tryz.ntmps61 rfl ?_
 repeat' first|refine Kz ?_|intro _
 refine Zal 4 ?_
 (repeat' (first|((show TL _ _ _ _ (_::_) _ _ _;first|refine Zdw ?_|refine Zdu ?_|(refine Zbz ?_;intro _)|(refine Zby ?_;first|rintro _ _ ⟨rfl,rfl⟩|rintro _ _ rfl)|refine Zbe ?_|refine Zay ?_|refine Zdv ?_|fail))|(refine Stp.h ?_)|((show Tri _ _ _ (.cond _ _ _) _ _ _;first|refine Za6 ?_|refine Za7 ?_|refine Zam ?_|refine Zan ?_|refine Zai ?_|refine Zaj ?_|fail))|(first|refine Zat rfl rfl (fun hgs=>?_) (fun hgs=>?_)|refine Zap rfl rfl (fun hgs=>?_) (fun hgs=>?_)|refine Zas rfl rfl rfl (fun hgs=>?_) (fun hgs=>?_)|refine Zao rfl rfl rfl (fun hgs=>?_) (fun hgs=>?_))|(refine Kx (fun hc=>?_) fun hc=>?_)))
 all_goals
  (refine Zac ?_)
  exact ⟨_,⟨by simp [isFar];omega,rfl⟩,Zaa⟩
theorem Zlc {a b:Value} {xs ys:List V3} [RdIn As a V3 cV3 xs] [RdIn As b V3 cV3 ys] (hl:xs.length≤1000000000) :
  CQ Tryz.prog w0 25 [a,b] As (.bool (decide (xs=ys))):=by
 refine Zab Tryz.func25 rfl Tryz.ntmps25 rfl ?_
 repeat' first|refine Kz ?_|intro _
 (refine Kx (fun hc=>?_) fun hc=>?_)
 ·repeat' first|refine Kz ?_|intro _
  (refine Zac ?_)
  exact ⟨_,⟨by rw [decide_eq_false (fun h=>by subst h;omega)],rfl⟩,Zaa⟩
 ·repeat' first|refine Kz ?_|intro _
  refine Tri.loop (ι:=Nat) (fun k=>k≤xs.length∧xs.take k=ys.take k) (fun k=>xs.length - k)
   (fun k=>[(0,a),(1,b),(5,.int .i64 k)]) (fun _=>As) 0 ⟨by omega,by simp⟩ Zae Zaa ?_
  intro k ⟨hk,he⟩
  repeat' first|refine Kz ?_|intro _
  (refine Kx (fun hc=>?_) fun hc=>?_)
  ·obtain ⟨p,hp⟩:∃ p,xs[k]?=some p:=⟨_,List.getElem?_eq_getElem (by omega)⟩
   obtain ⟨q,hq⟩:∃ p,ys[k]?=some p:=⟨_,List.getElem?_eq_getElem (by omega)⟩
   obtain ⟨px,py,pz⟩:=p
   obtain ⟨qx,qy,qz⟩:=q
   repeat' first|refine Kz ?_|intro _
   by_cases hpq:(⟨px,py,pz⟩:V3)=⟨qx,qy,qz⟩
   ·refine Zav (.take 0 (.take 1 (.take 2 (.take 3 (.take 4 (.take 5 (.take 6 (.take 7 (.take 8 (.done)))))))))) ?_
    repeat' first|refine Kf ?_|intro _|constructor
    refine Post.round (k+1) ⟨by omega,?_⟩ (by omega) Zae Zaa
    rw [List.take_add_one,List.take_add_one,hp,hq,he,hpq]
   ·refine Zav (.take 0 (.take 1 (.take 2 (.take 3 (.take 4 (.take 5 (.take 6 (.take 7 (.take 8 (.done)))))))))) ?_
    repeat' first|refine Kf ?_|intro _|constructor
    (refine Zac ?_)
    exact ⟨_,⟨by rw [decide_eq_false (fun h=>by subst h;rw [hp] at hq;exact hpq (Option.some.inj hq))],rfl⟩,Zaa⟩
  ·repeat' first|refine Kz ?_|intro _
   (refine Zac ?_)
   have hxy:xs=ys:=by
        rw [show k=xs.length from (by omega),List.take_length,show xs.length=ys.length from (by omega),List.take_length] at he
        exact he
   exact ⟨_,⟨by rw [decide_eq_true hxy],rfl⟩,Zaa⟩
theorem Zk2 {pv' fv':Value} {pts' fcs':List V3} [RdIn As pv V3 cV3 pts] [RdIn As fv V3 cV3 fcs] [RdIn As pv' V3 cV3 pts'] [RdIn As fv' V3 cV3 fcs'] (hl:pts.length≤1000000000) (hlf:fcs.length≤1000000000) :
  CQ Tryz.prog w0 9 [.agg #[pv,fv],.agg #[pv',fv']] As (.bool (decide (pts=pts')&&decide (fcs=fcs'))):=by
 refine Zab Tryz.func9 rfl Tryz.ntmps9 rfl ?_
 repeat' first|refine Kz ?_|intro _
 refine Kt rfl (Zlc hl) ?_
 by_cases h1:pts=pts'
 ·rw [decide_eq_true h1]
  repeat' first|refine Kz ?_|intro _
  refine Kt rfl (Zlc hlf) ?_
  repeat' first|refine Kz ?_|intro _
  (refine Zac ?_)
  exact ⟨_,⟨by simp,rfl⟩,Zaa⟩
 ·rw [decide_eq_false h1]
  repeat' first|refine Kz ?_|intro _
  (refine Zac ?_)
  exact ⟨_,⟨by simp,rfl⟩,Zaa⟩
theorem Zbg {a b:Int} {n:Nat} [RdIn As fv V3 cV3 fcs] (hl:fcs.length≤1000000000) (hn:n≤fcs.length) :
  CQ Tryz.prog w0 47 [.agg #[pv,fv],.int .i64 a,.int .i64 b,.int .i64 n] As (.int .i64 (plcV (plc fcs (a,b) n))):=by
 refine Zab Tryz.func47 rfl Tryz.ntmps47 rfl ?_
 repeat' first|refine Kz ?_|intro _
 rename_i b4
 refine Tri.loop (ι:=Nat) (fun k=>k≤n∧∀ (j:Nat) (y:V3),j < k→fcs[j]?=some y→hasE (a,b) y=false) (fun k=>n - k)
  (fun k=>[(1,.int .i64 a),(2,.int .i64 b),(3,.int .i64 n),(4,.pointer (some ⟨b4,0,none⟩)),(9,.int .i64 k)]) (fun _=>.cl b4 [pv,fv] 30::As) 0 ⟨by omega,fun _ _ h=>by omega⟩ Zae Zaa ?_
 intro k ⟨hk,hf⟩
 repeat' first|refine Kz ?_|intro _
 (refine Kx (fun hc=>?_) fun hc=>?_)
 ·obtain ⟨p,hp⟩:∃ p,fcs[k]?=some p:=⟨_,List.getElem?_eq_getElem (by omega)⟩
  obtain ⟨px,py,pz⟩:=p
  repeat' first|refine Kz ?_|intro _
  refine Zal 4 ?_
  (repeat' (first|((show TL _ _ _ _ (_::_) _ _ _;first|refine Zdw ?_|refine Zdu ?_|(refine Zbz ?_;intro _)|(refine Zby ?_;first|rintro _ _ ⟨rfl,rfl⟩|rintro _ _ rfl)|refine Zbe ?_|refine Zay ?_|refine Zdv ?_|fail))|(refine Stp.h ?_)|((show Tri _ _ _ (.cond _ _ _) _ _ _;first|refine Za6 ?_|refine Za7 ?_|refine Zam ?_|refine Zan ?_|refine Zai ?_|refine Zaj ?_|fail))|(first|refine Zat rfl rfl (fun hgs=>?_) (fun hgs=>?_)|refine Zap rfl rfl (fun hgs=>?_) (fun hgs=>?_)|refine Zas rfl rfl rfl (fun hgs=>?_) (fun hgs=>?_)|refine Zao rfl rfl rfl (fun hgs=>?_) (fun hgs=>?_))|(refine Kx (fun hc=>?_) fun hc=>?_)))
  all_goals first
   | ((refine Zac ?_);rw [Zk4 (by omega) hp (by simp [hasE,V3.edge];omega) hf];exact ⟨_,⟨rfl,rfl⟩,Zaa⟩)
   | (refine Post.round (k+1) ⟨by omega,fun j y hj hy=>?_⟩ (by omega) Zae Zaa
      rcases Nat.lt_or_ge j k with h1|h1
      ·exact hf j y h1 hy
      ·rw [show j=k from (by omega),hp] at hy;cases hy;simp [hasE,V3.edge];omega)
 ·repeat' first|refine Kz ?_|intro _
  (refine Zac ?_)
  rw [Zk5 fun j y hj=>hf j y (by omega)]
  exact ⟨_,⟨rfl,rfl⟩,Zaa⟩
end Go.Proofs.YtcgcjknkfalijaaGreatDoor
namespace Go.Proofs.YtcgcjknkfalijaaGreatDoor
open Go Go.Sx
variable {w0:World} {As:List Ent} {pv fv:Value} {pts fcs:List V3}
theorem Zmg {n:Nat} {f:V3} (hf:fcs[n]?=some f) (hw:isWrong pts.length f=false) (hfar:∀ p∈pts,p.in 200000) [RdIn As fv V3 cV3 fcs] [RdIn As pv V3 cV3 pts] :
  CQ Tryz.prog w0 62 [.agg #[pv,fv],.int .i64 n] As ((normal pts f).val):=by
 have hlt:=(List.getElem?_eq_some_iff.1 hf).1
 have hv:=hw
 simp only [isWrong,Bool.or_eq_false_iff,decide_eq_false_iff_not] at hv
 obtain ⟨i,hi⟩:∃ i:Nat,f.x=(i:Int):=⟨f.x.toNat,by omega⟩
 obtain ⟨j,hj⟩:∃ i:Nat,f.y=(i:Int):=⟨f.y.toNat,by omega⟩
 obtain ⟨l,hl'⟩:∃ i:Nat,f.z=(i:Int):=⟨f.z.toNat,by omega⟩
 obtain ⟨fx,fy,fz⟩:=f
 simp only at hi hj hl' hv
 subst hi hj hl'
 obtain ⟨p,ep⟩:∃ p,pts[i]?=some p:=⟨_,List.getElem?_eq_getElem (by omega)⟩
 obtain ⟨q,eq⟩:∃ p,pts[j]?=some p:=⟨_,List.getElem?_eq_getElem (by omega)⟩
 obtain ⟨r,er⟩:∃ p,pts[l]?=some p:=⟨_,List.getElem?_eq_getElem (by omega)⟩
 have hn:normal pts ⟨(i:Int),(j:Int),(l:Int)⟩=(q.sub p).cross (r.sub p):=by simp [normal,ptAt,ep,eq,er]
 rw [hn]
 have hp':=hfar p (List.mem_of_getElem? ep)
 have hq':=hfar q (List.mem_of_getElem? eq)
 have hr':=hfar r (List.mem_of_getElem? er)
 refine Zab Tryz.func62 rfl Tryz.ntmps62 rfl ?_
 repeat' first|refine Kz ?_|intro _
 rename_i b2 b4
 refine Tri.mid (fun e' As'=>∃ b5 b6 b7,e'=[(4,.pointer (some ⟨b4,0,none⟩)),(5,.pointer (some ⟨b5,0,none⟩)),(6,.pointer (some ⟨b6,0,none⟩)),(7,.pointer (some ⟨b7,0,none⟩))] ∧
  As'=.cl b5 [.int .i64 p.x,.int .i64 p.y,.int .i64 p.z] 32::.cl b6 [.int .i64 q.x,.int .i64 q.y,.int .i64 q.z] 32::.cl b7 [.int .i64 r.x,.int .i64 r.y,.int .i64 r.z] 32::.cl b4 [.int .i64 0,.int .i64 0,.int .i64 0] 32::As) ?_ ?_
 ·refine Zav (.take 0 (.take 1 (.take 2 (.take 3 (.take 4 (.take 5 (.take 6 (.take 7 (.take 8 (.take 9 (.take 10 (.take 11 (.take 12 (.take 13 (.take 14 (.take 15 (.take 16 (.take 17 (.take 18 (.take 19 (.take 20 (.take 21 (.take 22 (.take 23 (.take 24 (.take 25 (.take 26 (.take 27 (.take 28 (.take 29 (.all [(30,.all [(31,.all [(32,.all [(33,.all [(34,.all [(35,.done)])])])]),(32,.all [(31,.all [(33,.all [(34,.all [(35,.done)])])])])]),(31,.all [(30,.all [(32,.all [(33,.all [(34,.all [(35,.done)])])])]),(32,.all [(30,.all [(33,.all [(34,.all [(35,.done)])])])])]),(32,.all [(30,.all [(31,.all [(33,.all [(34,.all [(35,.done)])])])]),(31,.all [(30,.all [(33,.all [(34,.all [(35,.done)])])])])])]))))))))))))))))))))))))))))))) ?_
  repeat' first|refine Kf ?_|intro _|constructor
  all_goals exact Za3 _ _ ⟨_,_,_,rfl,rfl⟩ Zae Zaa
 ·rintro e' As' ⟨b5,b6,b7,rfl,rfl⟩
  repeat' first|refine Kz ?_|intro _
  refine Zav (.take 0 (.take 1 (.take 3 (.take 4 (.all [(2,.all [(5,.all [(6,.all [(7,.done)])])])]))))) ?_
  repeat' first|refine Kf ?_|intro _|constructor
  refine Kw rfl (Zfo hq' hp' (by decide)) ?_
  repeat' first|refine Kf ?_|intro _|constructor
  refine Kw rfl (Zfo hr' hp' (by decide)) ?_
  repeat' first|refine Kf ?_|intro _|constructor
  refine Kw rfl (Zop (Zgr hq' hp') (Zgr hr' hp') (by decide) (by decide) (by decide)) ?_
  repeat' first|refine Kf ?_|intro _|constructor
  exact Kv
def shapesM (pts fcs:List V3):Nat × Nat :=
 if pts.length < 4∨300 < pts.length then (1,0)
 else if fcs.length < 4∨600 < fcs.length then (1,1)
 else firstOf [farF pts,wrongF pts.length fcs,flatF pts fcs] 2
set_option maxHeartbeats 4000000 in
theorem Zl8 [RdIn As fv V3 cV3 fcs] [RdIn As pv V3 cV3 pts] :
  CQ Tryz.prog w0 46 [.agg #[pv,fv]] As (flawV (shapesM pts fcs)):=by
 refine Zar pv fun hpv=>Zar fv fun hfv=>?_
 refine Zab Tryz.func46 rfl Tryz.ntmps46 rfl ?_
 repeat' first|refine Kz ?_|intro _
 rename_i b1
 (repeat' (first|((show TL _ _ _ _ (_::_) _ _ _;first|refine Zdw ?_|refine Zdu ?_|(refine Zbz ?_;intro _)|(refine Zby ?_;first|rintro _ _ ⟨rfl,rfl⟩|rintro _ _ rfl)|refine Zbe ?_|refine Zay ?_|refine Zdv ?_|fail))|(refine Stp.h ?_)|(first|(show TT _ _ _ _ _ _ _ _ _;first|refine Ze9 ?_|refine Zee ?_|refine Zco ?_|refine Zq5 ?_|fail)|exact TTs.nil|refine TTs.cons ?_ ?_|(show T1 _ _ _ _ _ _ _ _ _ _;first|refine Zq7 ?_|(refine Zlo ?_;intro _)|(refine Zln ?_;first|rintro _ _ ⟨rfl,rfl⟩|rintro _ _ rfl)|refine Zq8 ?_|refine Zh1 ?_|refine Zfa ?_|fail)|(show TC _ _ _ _ _ _ _ _ _ _;first|refine Zlm ?_|refine Zh0 ?_|fail))|((show Tri _ _ _ (.cond _ _ _) _ _ _;first|refine Za6 ?_|refine Za7 ?_|refine Zam ?_|refine Zan ?_|refine Zai ?_|refine Zaj ?_|fail))|(first|refine Zat rfl rfl (fun hgs=>?_) (fun hgs=>?_)|refine Zap rfl rfl (fun hgs=>?_) (fun hgs=>?_)|refine Zas rfl rfl rfl (fun hgs=>?_) (fun hgs=>?_)|refine Zao rfl rfl rfl (fun hgs=>?_) (fun hgs=>?_))|(refine Kx (fun hc=>?_) fun hc=>?_)))
 iterate 4
  (refine Zac ?_)
  refine ⟨_,⟨?_,rfl⟩,Zaa⟩
  simp only [shapesM,flawV]
  first
   | (rw [if_pos (by omega)];rfl)
   | (rw [if_neg (by omega),if_pos (by omega)];rfl)
  rotate_left 0
 have hM:shapesM pts fcs=firstOf [farF pts,wrongF pts.length fcs,flatF pts fcs] 2:=by
  rw [shapesM,if_neg (by omega),if_neg (by omega)]
 rw [hM]
 clear hM
 have hlp:pts.length≤300:=by omega
 have hlf:fcs.length≤600:=by omega
 refine Tri.loop (ι:=Nat) (fun k=>k≤pts.length∧∀ (j:Nat) (y:V3),j < k→pts[j]?=some y→isFar y=false) (fun k=>pts.length - k)
  (fun k=>[(1,.pointer (some ⟨b1,0,none⟩)),(4,.int .i64 pts.length),(5,.int .i64 k)]) (fun _=>.cl b1 [pv,fv] 30::As) 0 ⟨by omega,fun _ _ h=>by omega⟩ Zae Zaa ?_
 intro k ⟨hk,hf⟩
 repeat' first|refine Kz ?_|intro _
 (refine Kx (fun hc=>?_) fun hc=>?_)
 ·obtain ⟨p,hp⟩:∃ p,pts[k]?=some p:=⟨_,List.getElem?_eq_getElem (by omega)⟩
  repeat' first|refine Kz ?_|intro _
  refine Kt rfl (Zsv (p:=p)) ?_
  cases hb:isFar p
  ·repeat' first|refine Kz ?_|intro _
   refine Post.round (k+1) ⟨by omega,fun j y hj hy=>?_⟩ (by omega) Zae Zaa
   rcases Nat.lt_or_ge j k with h1|h1
   ·exact hf j y h1 hy
   ·rw [show j=k from (by omega),hp] at hy;cases hy;exact hb
  ·repeat' first|refine Kz ?_|intro _
   (refine Zac ?_)
   rw [farF,Za8 hp hb hf]
   exact ⟨_,⟨rfl,rfl⟩,Zaa⟩
 have hfar:farF pts=none:=Za9 fun j y hj=>hf j y (by have:=(List.getElem?_eq_some_iff.1 hj).1;omega) hj
 rw [hfar]
 repeat' first|refine Kz ?_|intro _
 refine Tri.loop (ι:=Nat) (fun k=>k≤fcs.length∧∀ (j:Nat) (y:V3),j < k→fcs[j]?=some y→isWrong pts.length y=false) (fun k=>fcs.length - k)
  (fun k=>[(1,.pointer (some ⟨b1,0,none⟩)),(4,.int .i64 pts.length),(6,.int .i64 k)]) (fun _=>.cl b1 [pv,fv] 30::As) 0 ⟨by omega,fun _ _ h=>by omega⟩ Zae Zaa ?_
 intro k ⟨hk,hf⟩
 repeat' first|refine Kz ?_|intro _
 (refine Kx (fun hc=>?_) fun hc=>?_)
 ·obtain ⟨p,hp⟩:∃ p,fcs[k]?=some p:=⟨_,List.getElem?_eq_getElem (by omega)⟩
  repeat' first|refine Kz ?_|intro _
  refine Zal 4 ?_
  repeat' first|refine Kz ?_|intro _
  iterate 3
   refine Zav (.take 0 (.take 1 (.take 2 (.take 3 (.take 4 (.take 5 (.take 6 (.take 7 (.take 8 (.take 9 (.take 10 (.take 11 (.take 12 (.take 13 (.take 14 (.take 15 (.take 16 (.take 17 (.take 18 (.take 19 (.take 20 (.take 21 (.done))))))))))))))))))))))) ?_
   (repeat' (first|((show TL _ _ _ _ (_::_) _ _ _;first|refine Zdw ?_|refine Zdu ?_|(refine Zbz ?_;intro _)|(refine Zby ?_;first|rintro _ _ ⟨rfl,rfl⟩|rintro _ _ rfl)|refine Zbe ?_|refine Zay ?_|refine Zdv ?_|fail))|(refine Stp.h ?_)|(first|(show TT _ _ _ _ _ _ _ _ _;first|refine Ze9 ?_|refine Zee ?_|refine Zco ?_|refine Zq5 ?_|fail)|exact TTs.nil|refine TTs.cons ?_ ?_|(show T1 _ _ _ _ _ _ _ _ _ _;first|refine Zq7 ?_|(refine Zlo ?_;intro _)|(refine Zln ?_;first|rintro _ _ ⟨rfl,rfl⟩|rintro _ _ rfl)|refine Zq8 ?_|refine Zh1 ?_|refine Zfa ?_|fail)|(show TC _ _ _ _ _ _ _ _ _ _;first|refine Zlm ?_|refine Zh0 ?_|fail))|((show Tri _ _ _ (.cond _ _ _) _ _ _;first|refine Za6 ?_|refine Za7 ?_|refine Zam ?_|refine Zan ?_|refine Zai ?_|refine Zaj ?_|fail))|(first|refine Zat rfl rfl (fun hgs=>?_) (fun hgs=>?_)|refine Zap rfl rfl (fun hgs=>?_) (fun hgs=>?_)|refine Zas rfl rfl rfl (fun hgs=>?_) (fun hgs=>?_)|refine Zao rfl rfl rfl (fun hgs=>?_) (fun hgs=>?_))|(refine Kx (fun hc=>?_) fun hc=>?_)))
   all_goals try ((refine Zac ?_);rw [wrongF,Za8 hp (by simp [isWrong];omega) hf];exact ⟨_,⟨rfl,rfl⟩,Zaa⟩)
  refine Post.round (k+1) ⟨by omega,fun j y hj hy=>?_⟩ (by omega) Zae Zaa
  rcases Nat.lt_or_ge j k with h1|h1
  ·exact hf j y h1 hy
  ·rw [show j=k from (by omega),hp] at hy;cases hy;simp [isWrong];omega
 have hwr:wrongF pts.length fcs=none:=Za9 fun j y hj=>hf j y (by have:=(List.getElem?_eq_some_iff.1 hj).1;omega) hj
 rw [hwr]
 repeat' first|refine Kz ?_|intro _
 refine Tri.loop (ι:=Nat) (fun k=>k≤fcs.length∧∀ (j:Nat) (y:V3),j < k→fcs[j]?=some y→isFlat pts y=false) (fun k=>fcs.length - k)
  (fun k=>[(1,.pointer (some ⟨b1,0,none⟩)),(4,.int .i64 pts.length),(9,.int .i64 k)]) (fun _=>.cl b1 [pv,fv] 30::As) 0 ⟨by omega,fun _ _ h=>by omega⟩ Zae Zaa ?_
 intro k ⟨hk,hf⟩
 repeat' first|refine Kz ?_|intro _
 (refine Kx (fun hc=>?_) fun hc=>?_)
 ·obtain ⟨p,hp⟩:∃ p,fcs[k]?=some p:=⟨_,List.getElem?_eq_getElem (by omega)⟩
  repeat' first|refine Kz ?_|intro _
  refine Kt rfl (Zmg hp (Za0 hwr p (List.mem_of_getElem? hp)) (Ze6 hfar)) ?_
  by_cases hb:normal pts p=V3.zero
  ·repeat' first|refine Kz ?_|intro _
   (refine Zac ?_)
   rw [flatF,Za8 hp (show isFlat pts p=true from decide_eq_true hb) hf]
   exact ⟨_,⟨rfl,rfl⟩,Zaa⟩
  ·repeat' first|refine Kz ?_|intro _
   refine Post.round (k+1) ⟨by omega,fun j y hj hy=>?_⟩ (by omega) Zae Zaa
   rcases Nat.lt_or_ge j k with h1|h1
   ·exact hf j y h1 hy
   ·rw [show j=k from (by omega),hp] at hy;cases hy;exact decide_eq_false hb
 have hfl:flatF pts fcs=none:=Za9 fun j y hj=>hf j y (by have:=(List.getElem?_eq_some_iff.1 hj).1;omega) hj
 rw [hfl]
 repeat' first|refine Kz ?_|intro _
 exact Kv
end Go.Proofs.YtcgcjknkfalijaaGreatDoor
namespace Go.Proofs.YtcgcjknkfalijaaGreatDoor
open Go Go.Sx
variable {w0:World} {As:List Ent} {pv fv:Value} {pts fcs:List V3}
theorem Zns (h:(shapesM pts fcs).1≠0):flawR pts fcs=shapesM pts fcs:=by
 unfold flawR
 unfold shapesM at h ⊢
 by_cases c1:pts.length < 4∨300 < pts.length
 ·simp only [if_pos c1]
 by_cases c2:fcs.length < 4∨600 < fcs.length
 ·simp only [if_neg c1,if_pos c2]
 simp only [if_neg c1,if_neg c2] at h ⊢
 cases h1:farF pts with
 | some i=>rfl
 | none =>
  cases h2:wrongF pts.length fcs with
  | some i=>rfl
  | none =>
   cases h3:flatF pts fcs with
   | some i=>rfl
   | none=>rw [h1,h2,h3] at h;exact absurd rfl h
theorem Znr (h:(shapesM pts fcs).1=0):4≤pts.length∧pts.length≤300∧4≤fcs.length∧fcs.length≤600∧wrongF pts.length fcs=none ∧
  flawR pts fcs=firstOf [twiceR fcs,openR fcs,spareF pts.length fcs,apartF (owR fcs) fcs] 5:=by
 unfold flawR
 unfold shapesM at h
 by_cases c1:pts.length < 4∨300 < pts.length
 ·simp [if_pos c1] at h
 by_cases c2:fcs.length < 4∨600 < fcs.length
 ·simp [if_neg c1,if_pos c2] at h
 simp only [if_neg c1,if_neg c2] at h ⊢
 cases h1:farF pts with
 | some i=>rw [h1] at h;simp [firstOf] at h
 | none =>
  cases h2:wrongF pts.length fcs with
  | some i=>rw [h1,h2] at h;simp [firstOf] at h
  | none =>
   cases h3:flatF pts fcs with
   | some i=>rw [h1,h2,h3] at h;simp [firstOf] at h
   | none=>exact ⟨by omega,by omega,by omega,by omega,rfl,rfl⟩
theorem Zgo {ow:Edg→Nat} {r:List Bool} {a b:List Nat} {f:V3}:∀ {k:Nat},visitN ow (r,a++b) f k=((visitN ow (r,b) f k).1,a++(visitN ow (r,b) f k).2)
 | 0=>rfl
 | k+1=>by
  rw [visitN,visitN,Zgo]
  unfold visit1
  simp only
  split<;>simp
set_option maxRecDepth 100000 in
set_option maxHeartbeats 8000000 in
theorem Zqq [RdIn As fv V3 cV3 fcs] [RdIn As pv V3 cV3 pts] :
  CQ Tryz.prog w0 30 [.agg #[pv,fv]] As (flawV (flawR pts fcs)):=by
 refine Zar pv fun hpv=>Zar fv fun hfv=>?_
 refine Zab Tryz.func30 rfl Tryz.ntmps30 rfl ?_
 repeat' first|refine Kz ?_|intro _
 rename_i b1
 refine Kt rfl Zl8 ?_
 repeat' first|refine Kz ?_|intro _
 by_cases hs:(shapesM pts fcs).1=0
 rotate_left
 ·repeat' first|refine Kz ?_|intro _
  (refine Zac ?_)
  exact ⟨_,⟨by rw [Zns hs];rfl,rfl⟩,Zaa⟩
 obtain ⟨hp4,hp3,hf4,hf6,hwr,hM⟩:=Znr hs
 rw [hM]
 repeat' first|refine Kz ?_|intro _
 refine Tri.loop (ι:=Nat) (fun k=>k≤fcs.length∧∀ (j:Nat) (y:V3),j < k→fcs[j]?=some y→twR fcs y j=false) (fun k=>fcs.length - k)
  (fun k=>[(1,.pointer (some ⟨b1,0,none⟩)),(6,.int .i64 fcs.length),(7,.int .i64 k)]) (fun _=>.cl b1 [pv,fv] 30::As) 0 ⟨by omega,fun _ _ h=>by omega⟩ Zae Zaa ?_
 intro k ⟨hk,hf⟩
 repeat' first|refine Kz ?_|intro _
 (refine Kx (fun hc=>?_) fun hc=>?_)
 ·obtain ⟨p,hp⟩:∃ p,fcs[k]?=some p:=⟨_,List.getElem?_eq_getElem (by omega)⟩
  have htw:twR fcs p k=true→twiceR fcs=some k:=fun h=>by
   refine Zbt (by omega) (by rw [hp];exact h) fun j hj=>?_
   rw [List.getElem?_eq_getElem (by omega)]
   exact hf j _ hj (List.getElem?_eq_getElem (by omega))
  repeat' first|refine Kz ?_|intro _
  refine Zal 4 ?_
  repeat' first|refine Kz ?_|intro _
  refine Zav (.take 0 (.take 1 (.take 2 (.take 3 (.take 4 (.take 5 (.take 6 (.take 7 (.take 8 (.take 9 (.take 10 (.take 11 (.take 12 (.take 13 (.take 14 (.take 15 (.take 16 (.take 17 (.all [(18,.take 19 (.done))]))))))))))))))))))) ?_
  repeat' first|refine Kf ?_|intro _|constructor
  refine Kw rfl (Zbg (by omega) (by omega)) ?_
  cases h0:plc fcs (p.x,p.y) k with
  | some g =>
   rw [plcV]
   repeat' first|refine Kf ?_|intro _|constructor
   (refine Zac ?_)
   rw [htw (by simp [twR,V3.edge,h0])]
   exact ⟨_,⟨rfl,rfl⟩,Zaa⟩
  | none =>
  rw [plcV]
  repeat' first|refine Kf ?_|intro _|constructor
  refine Zav (.take 0 (.take 1 (.take 2 (.take 3 (.take 4 (.take 5 (.take 6 (.take 7 (.take 8 (.take 9 (.take 10 (.take 11 (.take 12 (.take 13 (.take 14 (.take 15 (.take 16 (.take 17 (.all [(18,.take 19 (.done))]))))))))))))))))))) ?_
  repeat' first|refine Kf ?_|intro _|constructor
  refine Kw rfl (Zbg (by omega) (by omega)) ?_
  cases h1:plc fcs (p.y,p.z) k with
  | some g =>
   rw [plcV]
   repeat' first|refine Kf ?_|intro _|constructor
   (refine Zac ?_)
   rw [htw (by simp [twR,V3.edge,h1])]
   exact ⟨_,⟨rfl,rfl⟩,Zaa⟩
  | none =>
  rw [plcV]
  repeat' first|refine Kf ?_|intro _|constructor
  refine Zav (.take 0 (.take 1 (.take 2 (.take 3 (.take 4 (.take 5 (.take 6 (.take 7 (.take 8 (.take 9 (.take 10 (.take 11 (.take 12 (.take 13 (.take 14 (.take 15 (.take 16 (.take 17 (.all [(18,.take 19 (.done))]))))))))))))))))))) ?_
  repeat' first|refine Kf ?_|intro _|constructor
  refine Kw rfl (Zbg (by omega) (by omega)) ?_
  cases h2:plc fcs (p.z,p.x) k with
  | some g =>
   rw [plcV]
   repeat' first|refine Kf ?_|intro _|constructor
   (refine Zac ?_)
   rw [htw (by simp [twR,V3.edge,h2])]
   exact ⟨_,⟨rfl,rfl⟩,Zaa⟩
  | none =>
  rw [plcV]
  repeat' first|refine Kf ?_|intro _|constructor
  refine Post.round (k+1) ⟨by omega,fun j y hj hy=>?_⟩ (by omega) Zae Zaa
  rcases Nat.lt_or_ge j k with h3|h3
  ·exact hf j y h3 hy
  ·rw [show j=k from (by omega)] at hy ⊢;rw [hp] at hy;cases hy;simp [twR,V3.edge,h0,h1,h2]
 have htn:twiceR fcs=none:=Zbu fun j hj=>by
  rw [List.getElem?_eq_getElem hj]
  exact hf j _ (by omega) (List.getElem?_eq_getElem hj)
 rw [htn]
 repeat' first|refine Kz ?_|intro _
 refine Tri.loop (ι:=Nat) (fun k=>k≤fcs.length∧∀ (j:Nat) (y:V3),j < k→fcs[j]?=some y→opR fcs y=false) (fun k=>fcs.length - k)
  (fun k=>[(1,.pointer (some ⟨b1,0,none⟩)),(6,.int .i64 fcs.length),(9,.int .i64 k)]) (fun _=>.cl b1 [pv,fv] 30::As) 0 ⟨by omega,fun _ _ h=>by omega⟩ Zae Zaa ?_
 intro k ⟨hk,hf⟩
 repeat' first|refine Kz ?_|intro _
 (refine Kx (fun hc=>?_) fun hc=>?_)
 ·obtain ⟨p,hp⟩:∃ p,fcs[k]?=some p:=⟨_,List.getElem?_eq_getElem (by omega)⟩
  have hop:opR fcs p=true→openR fcs=some k:=fun h=>by
   refine Zbt (by omega) (by rw [hp];exact h) fun j hj=>?_
   rw [List.getElem?_eq_getElem (by omega)]
   exact hf j _ hj (List.getElem?_eq_getElem (by omega))
  repeat' first|refine Kz ?_|intro _
  refine Zal 4 ?_
  repeat' first|refine Kz ?_|intro _
  refine Zav (.take 0 (.take 1 (.take 2 (.take 3 (.take 4 (.take 5 (.take 6 (.take 7 (.take 8 (.take 9 (.take 10 (.take 11 (.take 12 (.take 13 (.take 14 (.take 15 (.take 16 (.take 17 (.all [(18,.take 19 (.done))]))))))))))))))))))) ?_
  repeat' first|refine Kf ?_|intro _|constructor
  refine Kw rfl (Zbg (by omega) (Nat.le_refl _)) ?_
  cases h0:plc fcs (p.y,p.x) fcs.length with
  | none =>
   rw [plcV]
   repeat' first|refine Kf ?_|intro _|constructor
   (refine Zac ?_)
   rw [hop (by simp [opR,V3.edge,h0])]
   exact ⟨_,⟨rfl,rfl⟩,Zaa⟩
  | some g0 =>
  rw [plcV]
  repeat' first|refine Kf ?_|intro _|constructor
  refine Zav (.take 0 (.take 1 (.take 2 (.take 3 (.take 4 (.take 5 (.take 6 (.take 7 (.take 8 (.take 9 (.take 10 (.take 11 (.take 12 (.take 13 (.take 14 (.take 15 (.take 16 (.take 17 (.all [(18,.take 19 (.done))]))))))))))))))))))) ?_
  repeat' first|refine Kf ?_|intro _|constructor
  refine Kw rfl (Zbg (by omega) (Nat.le_refl _)) ?_
  cases h1:plc fcs (p.z,p.y) fcs.length with
  | none =>
   rw [plcV]
   repeat' first|refine Kf ?_|intro _|constructor
   (refine Zac ?_)
   rw [hop (by simp [opR,V3.edge,h1])]
   exact ⟨_,⟨rfl,rfl⟩,Zaa⟩
  | some g1 =>
  rw [plcV]
  repeat' first|refine Kf ?_|intro _|constructor
  refine Zav (.take 0 (.take 1 (.take 2 (.take 3 (.take 4 (.take 5 (.take 6 (.take 7 (.take 8 (.take 9 (.take 10 (.take 11 (.take 12 (.take 13 (.take 14 (.take 15 (.take 16 (.take 17 (.all [(18,.take 19 (.done))]))))))))))))))))))) ?_
  repeat' first|refine Kf ?_|intro _|constructor
  refine Kw rfl (Zbg (by omega) (Nat.le_refl _)) ?_
  cases h2:plc fcs (p.x,p.z) fcs.length with
  | none =>
   rw [plcV]
   repeat' first|refine Kf ?_|intro _|constructor
   (refine Zac ?_)
   rw [hop (by simp [opR,V3.edge,h2])]
   exact ⟨_,⟨rfl,rfl⟩,Zaa⟩
  | some g2 =>
  rw [plcV]
  repeat' first|refine Kf ?_|intro _|constructor
  refine Post.round (k+1) ⟨by omega,fun j y hj hy=>?_⟩ (by omega) Zae Zaa
  rcases Nat.lt_or_ge j k with h3|h3
  ·exact hf j y h3 hy
  ·rw [show j=k from (by omega)] at hy;rw [hp] at hy;cases hy;simp [opR,V3.edge,h0,h1,h2]
 have hon:openR fcs=none:=Zbu fun j hj=>by
  rw [List.getElem?_eq_getElem hj]
  exact hf j _ (by omega) (List.getElem?_eq_getElem hj)
 have hown:∀ f∈fcs,∀ i,i < 3→∃ g,g < fcs.length∧plc fcs (f.edge i).swap fcs.length=some g:=by
  intro f hfm i hi
  obtain ⟨j,hj⟩:=List.mem_iff_getElem?.1 hfm
  have hop:=hf j f (by have:=(List.getElem?_eq_some_iff.1 hj).1;omega) hj
  simp only [opR,Bool.or_eq_false_iff] at hop
  have hne:plc fcs (f.edge i).swap fcs.length≠none:=by
   match i,hi with
   | 0,_=>intro e;rw [e] at hop;simp at hop
   | 1,_=>intro e;rw [e] at hop;simp at hop
   | 2,_=>intro e;rw [e] at hop;simp at hop
  obtain ⟨g,hg⟩:=Option.ne_none_iff_exists'.1 hne
  refine ⟨g,?_,hg⟩
  have:=(List.findIdx?_eq_some_iff_getElem.1 hg).1
  simp at this;omega
 rw [hon]
 repeat' first|refine Kz ?_|intro _
 rename_i uv
 refine Tri.loop (ι:=Nat) (fun k=>k≤fcs.length) (fun k=>fcs.length - k)
  (fun k=>[(1,.pointer (some ⟨b1,0,none⟩)),(6,.int .i64 fcs.length),(11,uv),(12,.int .i64 k)])
  (fun k=>.ow cB 4 uv ((fcs.take k).foldl mark1 (List.replicate pts.length false))::.cl b1 [pv,fv] 30::As) 0 (by omega) Zae (by simp only [List.take_zero,List.foldl_nil];(exact Zaa)) ?_
 intro k hk
 generalize hu:(fcs.take k).foldl mark1 (List.replicate pts.length false)=us
 have hul:us.length=pts.length:=by rw [← hu,Zcg];simp
 repeat' first|refine Kz ?_|intro _
 (refine Kx (fun hc=>?_) fun hc=>?_)
 ·obtain ⟨f,hp⟩:∃ p,fcs[k]?=some p:=⟨_,List.getElem?_eq_getElem (by omega)⟩
  have hv:=Za0 hwr f (List.mem_of_getElem? hp)
  simp only [isWrong,Bool.or_eq_false_iff,decide_eq_false_iff_not] at hv
  obtain ⟨i,hi⟩:∃ i:Nat,f.x=(i:Int):=⟨f.x.toNat,by omega⟩
  obtain ⟨j,hj⟩:∃ i:Nat,f.y=(i:Int):=⟨f.y.toNat,by omega⟩
  obtain ⟨l,hl'⟩:∃ i:Nat,f.z=(i:Int):=⟨f.z.toNat,by omega⟩
  obtain ⟨fx,fy,fz⟩:=f
  simp only at hi hj hl' hv
  subst hi hj hl'
  have hm:mark1 us ⟨(i:Int),(j:Int),(l:Int)⟩=((us.set i true).set j true).set l true:=by simp [mark1]
  obtain ⟨q1,e1⟩:∃ p,us[i]?=some p:=⟨_,List.getElem?_eq_getElem (by omega)⟩
  obtain ⟨q2,e2⟩:∃ p,(us.set i true)[j]?=some p:=⟨_,List.getElem?_eq_getElem (by simp;omega)⟩
  obtain ⟨q3,e3⟩:∃ p,((us.set i true).set j true)[l]?=some p:=⟨_,List.getElem?_eq_getElem (by simp;omega)⟩
  have l2:(us.set i true).length=us.length:=List.length_set
  have l3:((us.set i true).set j true).length=us.length:=by rw [List.length_set,List.length_set]
  repeat' first|refine Kz ?_|intro _
  refine Zal 4 ?_
  repeat' first|refine Kz ?_|intro _
  refine Post.round (k+1) (by omega) (by omega) Zae ?_
  simp only [Zak hp,hu,hm]
  (exact Zaa)
 have hk':k=fcs.length:=by omega
 subst hk'
 rw [List.take_length] at hu
 have hsp:spareF pts.length fcs=us.findIdx? (· == false):=by rw [spareF,usedF,hu]
 rw [hsp]
 repeat' first|refine Kz ?_|intro _
 refine Tri.loop (ι:=Nat) (fun k=>k≤us.length∧∀ (j:Nat) (y:Bool),j < k→us[j]?=some y→(y == false)=false) (fun k=>us.length - k)
  (fun k=>[(1,.pointer (some ⟨b1,0,none⟩)),(6,.int .i64 fcs.length),(11,uv),(14,.int .i64 k)]) (fun _=>.ow cB 4 uv us::.cl b1 [pv,fv] 30::As) 0 ⟨by omega,fun _ _ h=>by omega⟩ Zae Zaa ?_
 intro k ⟨hk,hf⟩
 repeat' first|refine Kz ?_|intro _
 (refine Kx (fun hc=>?_) fun hc=>?_)
 ·obtain ⟨b,hb⟩:∃ b,us[k]?=some b:=⟨_,List.getElem?_eq_getElem (by omega)⟩
  cases b
  ·repeat' first|refine Kz ?_|intro _
   (refine Zac ?_)
   rw [Za8 hb rfl hf]
   exact ⟨_,⟨rfl,rfl⟩,Zaa⟩
  ·repeat' first|refine Kz ?_|intro _
   refine Post.round (k+1) ⟨by omega,fun j y hj hy=>?_⟩ (by omega) Zae Zaa
   rcases Nat.lt_or_ge j k with h3|h3
   ·exact hf j y h3 hy
   ·rw [show j=k from (by omega)] at hy;rw [hb] at hy;cases hy;rfl
 have hsn:us.findIdx? (· == false)=none:=Za9 fun j y hj=>hf j y (by have:=(List.getElem?_eq_some_iff.1 hj).1;omega) hj
 rw [hsn]
 have hrl:(List.replicate fcs.length false).length=fcs.length:=List.length_replicate
 repeat' first|refine Kz ?_|intro _
 rename_i rv bq
 refine Tri.ents (Za5 (cN .i64) [0] rfl rfl rfl) ?_
 generalize hR:apartF (owR fcs) fcs=R
 generalize hW:owR fcs=W at *
 refine Tri.loop (ι:=Value × List Bool × List Nat × Nat) (fun s=>s.2.1.length=fcs.length∧(∀ x∈s.2.2.1,x < fcs.length)∧s.2.2.2≤s.2.2.1.length∧left (s.2.1,s.2.2.1)=fcs.length ∧
   (reach W fcs (left (s.2.1,s.2.2.1.drop s.2.2.2)) (s.2.1,s.2.2.1.drop s.2.2.2)).findIdx? (· == false)=R) (fun s=>fcs.length - s.2.2.2)
  (fun s=>[(1,.pointer (some ⟨b1,0,none⟩)),(6,.int .i64 fcs.length),(15,rv),(16,s.1),(17,.int .i64 s.2.2.2)])
  (fun s=>.ow (cN .i64) 3 s.1 s.2.2.1::.ow cB 4 rv s.2.1::.cl b1 [pv,fv] 30::As)
  (.slice (some ⟨bq,0,none⟩) 1 1,(List.replicate fcs.length false).set 0 true,[0],0) ⟨by simp,by simp;omega,by simp,?_,?_⟩ Zae Zaa ?_
 ·have h1:(List.replicate fcs.length false)[0]?=some false:=by rw [List.getElem?_replicate,if_pos (by omega)]
  have h2:=Zeb h1
  simp only [left,List.length_cons,List.length_nil]
  rw [List.count_replicate_self] at h2
  omega
 ·have h1:(List.replicate fcs.length false)[0]?=some false:=by rw [List.getElem?_replicate,if_pos (by omega)]
  have h2:=Zeb h1
  rw [List.count_replicate_self] at h2
  have hlf:left ((List.replicate fcs.length false).set 0 true,[0])=fcs.length:=by
   simp only [left,List.length_cons,List.length_nil]
   omega
  simp only [List.drop_zero]
  rw [hlf,← hR]
  rfl
 rintro ⟨qv,r,lst,k⟩ ⟨hrn,hnx,hkl,hlf,hre⟩
 simp only at hrn hnx hkl hlf hre
 show Tri _ _ _ _ [(1,_),(6,_),(15,rv),(16,qv),(17,.int .i64 (k:Int))] (.ow (cN .i64) 3 qv lst::.ow cB 4 rv r::.cl b1 [pv,fv] 30::As) _
 have hll:lst.length≤600:=by simp only [left] at hlf;omega
 repeat' first|refine Kz ?_|intro _
 (refine Kx (fun hc=>?_) fun hc=>?_)
 ·obtain ⟨x,hx0⟩:∃ x,lst[k]?=some x:=⟨_,List.getElem?_eq_getElem (by omega)⟩
  have hxn:x < fcs.length:=hnx x (List.mem_of_getElem? hx0)
  obtain ⟨f,hp⟩:∃ p,fcs[x]?=some p:=⟨_,List.getElem?_eq_getElem hxn⟩
  repeat' first|refine Kz ?_|intro _
  refine Zav (.take 0 (.take 1 (.take 2 (.take 3 (.take 4 (.take 5 (.take 6 (.take 7 (.all [(8,.all [(9,.done)])]))))))))) ?_
  repeat' first|refine Kf ?_|intro _|constructor
  rename_i bf
  have hdr:lst.drop k=x::lst.drop (k+1):=by
   rw [List.drop_eq_getElem_cons (by omega)]
   rw [List.getElem?_eq_getElem (by omega)] at hx0
   rw [Option.some.inj hx0]
  have hw:∀ i,i < 3→W (f.edge i).swap < r.length:=fun i hi=>by
   obtain ⟨g,g1,g2⟩:=hown f (List.mem_of_getElem? hp) i hi
   rw [← hW,owR,g2];simpa [hrn] using g1
  refine Tri.loop (ι:=Nat × Value) (fun i=>i.1≤3) (fun i=>3 - i.1) (fun i=>[(1,.pointer (some ⟨b1,0,none⟩)),(6,.int .i64 fcs.length),(15,rv),(16,i.2),(17,.int .i64 k),(18,.pointer (some ⟨bf,0,none⟩)),(19,.int .i64 i.1)])
   (fun i=>.ow (cN .i64) 3 i.2 (visitN W (r,lst) f i.1).2::.ow cB 4 rv (visitN W (r,lst) f i.1).1::.cl bf [.int .i64 f.x,.int .i64 f.y,.int .i64 f.z] 32::.cl b1 [pv,fv] 30::As)
   (0,qv) (by omega) Zae (by simp only [visitN];(exact Zaa)) ?_
  rintro ⟨j,v5⟩ hj
  simp only at hj
  have hsl:=Zdk (ow:=W) (s:=(r,lst)) (f:=f) (k:=j) fun i hi=>hw i (by omega)
  have hsn:(visitN W (r,lst) f j).1.length=fcs.length:=by rw [Zci];exact hrn
  show Tri _ _ _ _ [(1,_),(6,_),(15,rv),(16,v5),(17,_),(18,_),(19,.int .i64 (j:Int))] (.ow (cN .i64) 3 v5 (visitN W (r,lst) f j).2::.ow cB 4 rv (visitN W (r,lst) f j).1::_) _
  have hstep:visitN W (r,lst) f (j+1)=visit1 W (visitN W (r,lst) f j) (f.edge j).swap:=rfl
  obtain ⟨r',q',hs⟩:∃ r' q',visitN W (r,lst) f j=(r',q'):=⟨_,_,rfl⟩
  simp only [hs] at hsl hsn hstep ⊢
  have hql:q'.length≤1000000000:=by simp only [left] at hsl hlf;omega
  repeat' first|refine Kz ?_|intro _
  (refine Kx (fun hc=>?_) fun hc=>?_)
  ·obtain ⟨g,g1,g2⟩:=hown f (List.mem_of_getElem? hp) j (by omega)
   have hWg:W (f.edge j).swap=g:=by rw [← hW,owR,g2];rfl
   obtain ⟨b,hb⟩:∃ b,r'[g]?=some b:=⟨_,List.getElem?_eq_getElem (by omega)⟩
   have h3:j=0∨j=1∨j=2:=by omega
   rcases h3 with rfl|rfl|rfl
   ·have g3:plc fcs (f.y,f.x) fcs.length=some g:=g2
    repeat' first|refine Kz ?_|intro _
    refine Zav (.take 0 (.take 1 (.take 2 (.take 3 (.take 4 (.take 5 (.take 6 (.take 7 (.take 8 (.take 9 (.all [(10,.take 11 (.done))]))))))))))) ?_
    repeat' first|refine Kf ?_|intro _|constructor
    refine Kw rfl (Zbg (by omega) (Nat.le_refl _)) ?_
    rw [g3,plcV]
    cases b
    ·have hv:visitN W (r,lst) f (0+1)=(r'.set g true,q'++[g]):=by rw [hstep,visit1,hWg];simp [hb]
     repeat' first|refine Kf ?_|intro _|constructor
     rename_i v6
     refine Post.round (0+1,v6) (by simp) (by simp) Zae ?_
     show Ents _ (.ow _ _ v6 (visitN W (r,lst) f (0+1)).2::.ow _ _ rv (visitN W (r,lst) f (0+1)).1::_)
     rw [hv]
     show Ents _ (.ow _ _ v6 (q'++[g])::.ow _ _ rv (r'.set g true)::_)
     (exact Zaa)
    ·have hv:visitN W (r,lst) f (0+1)=(r',q'):=by rw [hstep,visit1,hWg];simp [hb]
     repeat' first|refine Kf ?_|intro _|constructor
     refine Post.round (0+1,v5) (by simp) (by simp) Zae ?_
     show Ents _ (.ow _ _ v5 (visitN W (r,lst) f (0+1)).2::.ow _ _ rv (visitN W (r,lst) f (0+1)).1::_)
     rw [hv]
     show Ents _ (.ow _ _ v5 q'::.ow _ _ rv r'::_)
     (exact Zaa)
   ·have g3:plc fcs (f.z,f.y) fcs.length=some g:=g2
    repeat' first|refine Kz ?_|intro _
    refine Zav (.take 0 (.take 1 (.take 2 (.take 3 (.take 4 (.take 5 (.take 6 (.take 7 (.take 8 (.take 9 (.all [(10,.take 11 (.done))]))))))))))) ?_
    repeat' first|refine Kf ?_|intro _|constructor
    refine Kw rfl (Zbg (by omega) (Nat.le_refl _)) ?_
    rw [g3,plcV]
    cases b
    ·have hv:visitN W (r,lst) f (1+1)=(r'.set g true,q'++[g]):=by rw [hstep,visit1,hWg];simp [hb]
     repeat' first|refine Kf ?_|intro _|constructor
     rename_i v6
     refine Post.round (1+1,v6) (by simp) (by simp) Zae ?_
     show Ents _ (.ow _ _ v6 (visitN W (r,lst) f (1+1)).2::.ow _ _ rv (visitN W (r,lst) f (1+1)).1::_)
     rw [hv]
     show Ents _ (.ow _ _ v6 (q'++[g])::.ow _ _ rv (r'.set g true)::_)
     (exact Zaa)
    ·have hv:visitN W (r,lst) f (1+1)=(r',q'):=by rw [hstep,visit1,hWg];simp [hb]
     repeat' first|refine Kf ?_|intro _|constructor
     refine Post.round (1+1,v5) (by simp) (by simp) Zae ?_
     show Ents _ (.ow _ _ v5 (visitN W (r,lst) f (1+1)).2::.ow _ _ rv (visitN W (r,lst) f (1+1)).1::_)
     rw [hv]
     show Ents _ (.ow _ _ v5 q'::.ow _ _ rv r'::_)
     (exact Zaa)
   ·have g3:plc fcs (f.x,f.z) fcs.length=some g:=g2
    repeat' first|refine Kz ?_|intro _
    refine Zav (.take 0 (.take 1 (.take 2 (.take 3 (.take 4 (.take 5 (.take 6 (.take 7 (.take 8 (.take 9 (.all [(10,.take 11 (.done))]))))))))))) ?_
    repeat' first|refine Kf ?_|intro _|constructor
    refine Kw rfl (Zbg (by omega) (Nat.le_refl _)) ?_
    rw [g3,plcV]
    cases b
    ·have hv:visitN W (r,lst) f (2+1)=(r'.set g true,q'++[g]):=by rw [hstep,visit1,hWg];simp [hb]
     repeat' first|refine Kf ?_|intro _|constructor
     rename_i v6
     refine Post.round (2+1,v6) (by simp) (by simp) Zae ?_
     show Ents _ (.ow _ _ v6 (visitN W (r,lst) f (2+1)).2::.ow _ _ rv (visitN W (r,lst) f (2+1)).1::_)
     rw [hv]
     show Ents _ (.ow _ _ v6 (q'++[g])::.ow _ _ rv (r'.set g true)::_)
     (exact Zaa)
    ·have hv:visitN W (r,lst) f (2+1)=(r',q'):=by rw [hstep,visit1,hWg];simp [hb]
     repeat' first|refine Kf ?_|intro _|constructor
     refine Post.round (2+1,v5) (by simp) (by simp) Zae ?_
     show Ents _ (.ow _ _ v5 (visitN W (r,lst) f (2+1)).2::.ow _ _ rv (visitN W (r,lst) f (2+1)).1::_)
     rw [hv]
     show Ents _ (.ow _ _ v5 q'::.ow _ _ rv r'::_)
     (exact Zaa)
  ·have hj3:j=3:=by omega
   subst hj3
   have hw':∀ i,i < 3→W (f.edge i).swap < fcs.length:=fun i hi=>by rw [← hrn];exact hw i hi
   have hmem:=Zgn (ow:=W) (s:=(r,lst)) (f:=f) (n:=fcs.length) (k:=3) hw' hnx
   rw [hs] at hmem
   have happ:=Zgo (ow:=W) (r:=r) (a:=lst.take (k+1)) (b:=lst.drop (k+1)) (f:=f) (k:=3)
   rw [List.take_append_drop,hs] at happ
   have hlt:(lst.take (k+1)).length=k+1:=by rw [List.length_take];omega
   have hq':q'.drop (k+1)=(visitN W (r,lst.drop (k+1)) f 3).2:=by
        rw [(Prod.mk.inj happ).2]
        rw [List.drop_append_of_le_length (by omega),List.drop_of_length_le (by omega),List.nil_append]
   have hr':r'=(visitN W (r,lst.drop (k+1)) f 3).1:=(Prod.mk.inj happ).1
   have hqk:k+1≤q'.length:=by rw [(Prod.mk.inj happ).2];simp only [List.length_append];omega
   have hl2:=Zdk (ow:=W) (s:=(r,lst.drop (k+1))) (f:=f) (k:=3) hw
   have hle:left (r,lst.drop (k+1))+1=left (r,lst.drop k):=by rw [hdr];simp only [left,List.length_cons];omega
   repeat' first|refine Kz ?_|intro _
   refine Post.round (v5,r',q',k+1) ⟨hsn,hmem,hqk,?_,?_⟩ ?_ Zae Zaa
   ·show left (r',q')=fcs.length
    rw [← hlf];exact hsl
   ·show (reach W fcs (left (r',q'.drop (k+1))) (r',q'.drop (k+1))).findIdx? (· == false)=R
    rw [← hre,← hle,hq',hr']
    rw [show left ((visitN W (r,lst.drop (k+1)) f 3).1,(visitN W (r,lst.drop (k+1)) f 3).2)=left (r,lst.drop (k+1)) from hl2,hdr]
    simp only [reach,hp,visit]
   ·show fcs.length - (k+1) < fcs.length - k
    simp only [left] at hlf
    omega
 have hnil:lst.drop k=[]:=List.drop_of_length_le (by omega)
 rw [hnil,Zik] at hre
 rw [← hre]
 clear hre
 repeat' first|refine Kz ?_|intro _
 refine Tri.loop (ι:=Nat) (fun k=>k≤r.length∧∀ (j:Nat) (y:Bool),j < k→r[j]?=some y→(y == false)=false) (fun k=>r.length - k)
  (fun k=>[(1,.pointer (some ⟨b1,0,none⟩)),(6,.int .i64 fcs.length),(15,rv),(21,.int .i64 k)]) (fun _=>.ow cB 4 rv r::.cl b1 [pv,fv] 30::As) 0 ⟨by omega,fun _ _ h=>by omega⟩ Zae Zaa ?_
 intro k ⟨hk,hf⟩
 repeat' first|refine Kz ?_|intro _
 (refine Kx (fun hc=>?_) fun hc=>?_)
 ·obtain ⟨b,hb⟩:∃ b,r[k]?=some b:=⟨_,List.getElem?_eq_getElem (by omega)⟩
  cases b
  ·repeat' first|refine Kz ?_|intro _
   (refine Zac ?_)
   rw [Za8 hb rfl hf]
   exact ⟨_,⟨rfl,rfl⟩,Zaa⟩
  ·repeat' first|refine Kz ?_|intro _
   refine Post.round (k+1) ⟨by omega,fun j y hj hy=>?_⟩ (by omega) Zae Zaa
   rcases Nat.lt_or_ge j k with h3|h3
   ·exact hf j y h3 hy
   ·rw [show j=k from (by omega)] at hy;rw [hb] at hy;cases hy;rfl
 have hrn2:r.findIdx? (· == false)=none:=Za9 fun j y hj=>hf j y (by have:=(List.getElem?_eq_some_iff.1 hj).1;omega) hj
 rw [hrn2]
 repeat' first|refine Kz ?_|intro _
 exact Kv
theorem Zi7 [RdIn As fv V3 cV3 fcs] [RdIn As pv V3 cV3 pts] :
  CQ Tryz.prog w0 17 [.agg #[pv,fv]] As (.int .i64 (chkM pts fcs)):=by
 refine Zab Tryz.func17 rfl Tryz.ntmps17 rfl ?_
 repeat' first|refine Kz ?_|intro _
 refine Kt rfl Zqq ?_
 rw [Zst]
 repeat' first|refine Kz ?_|intro _
 (refine Kx (fun hc=>?_) fun hc=>?_)
 ·repeat' first|refine Kz ?_|intro _
  (refine Zac ?_)
  exact ⟨_,⟨by rw [chkM,if_neg (by omega)],rfl⟩,Zaa⟩
 ·repeat' first|refine Kz ?_|intro _
  (refine Zac ?_)
  exact ⟨_,⟨by rw [chkM,if_pos (by omega)],rfl⟩,Zaa⟩
end Go.Proofs.YtcgcjknkfalijaaGreatDoor
namespace Go.Proofs.YtcgcjknkfalijaaGreatDoor
open Go Go.Sx
variable {w0:World} {As:List Ent} {pv fv:Value} {pts fcs:List V3}
theorem Zl4 [RdIn As fv V3 cV3 fcs] [RdIn As pv V3 cV3 pts] :
  CallsS Tryz.prog w0 18 [.agg #[pv,fv]] As (MeshR As (turnedM pts fcs)):=by
 refine Zar pv fun hpv=>Zar fv fun hfv=>?_
 refine Zab Tryz.func18 rfl Tryz.ntmps18 rfl ?_
 repeat' first|refine Kz ?_|intro _
 rename_i b1 b2
 refine Kt rfl Zi7 ?_
 repeat' first|refine Kz ?_|intro _
 (refine Kx (fun hc=>?_) fun hc=>?_)
 ·obtain ⟨h1,h2⟩:=Zfz hc
  rw [h2]
  repeat' first|refine Kz ?_|intro _
  (refine Zac ?_)
  rw [turnedM,if_neg h1]
  obtain ⟨As',h3,h4⟩:=Zcf (As:=As) (r:=350)
  exact ⟨As',h3,Ents.trans Zaa h4⟩
 ·have hk:=Zfy hc
  have hg:=Zvk.1 hk
  have hlp:=hg.p300
  have hlf:=hg.f600
  repeat' first|refine Kz ?_|intro _
  rename_i v5
  refine Zs8 v5 ?_
  rintro p1 c1 rfl
  repeat' first|refine Kz ?_|intro _
  refine TL.f rfl rfl (ExF.build (vs:=[.slice p1 pts.length c1]) rfl (l:=[.slice p1 pts.length c1,.slice none 0 0]) (fun w=>by kernel_rfl)) ?_
  repeat' first|refine Kz ?_|intro _
  rename_i b5
  refine Tri.ents (Zbm (T:=32) cV3) ?_
  refine Tri.loop (ι:=Nat × Option Addr × Nat) (fun s=>s.1≤fcs.length) (fun s=>fcs.length - s.1)
   (fun s=>[(1,.pointer (some ⟨b1,0,none⟩)),(2,.pointer (some ⟨b2,0,none⟩)),(5,.pointer (some ⟨b5,0,none⟩)),(6,.int .i64 s.1)])
   (fun s=>.ow cV3 32 (.slice s.2.1 s.1 s.2.2) ((fcs.take s.1).map swapF)::.cl b5 [.slice p1 pts.length c1,.slice s.2.1 s.1 s.2.2] 30::.ow cV3 32 (.slice p1 pts.length c1) pts::.cl b1 [pv,fv] 30::.cl b2 [.slice none 0 0,.slice none 0 0] 30::As) (0,none,0) (by simp) Zae (by simp only [List.take_zero,List.map_nil];(exact Zaa)) ?_
  rintro ⟨k,p2,c2⟩ hkl
  simp only at hkl
  have hlen:((fcs.take k).map swapF).length=k:=by simp;omega
  generalize hxs:(fcs.take k).map swapF=xs at hlen ⊢
  show Tri _ _ _ _ [(1,_),(2,_),(5,_),(6,.int .i64 (k:Int))] (.ow cV3 32 (.slice p2 k c2) xs::.cl b5 [.slice p1 pts.length c1,.slice p2 k c2] 30::_) _
  repeat' first|refine Kz ?_|intro _
  (refine Kx (fun hc=>?_) fun hc=>?_)
  ·obtain ⟨f,hp⟩:∃ p,fcs[k]?=some p:=⟨_,List.getElem?_eq_getElem (by omega)⟩
   repeat' first|refine Kz ?_|intro _
   refine Zeu (.cl b5 [.slice p1 pts.length c1,.slice p2 k c2] 30::.ow cV3 32 (.slice p1 pts.length c1) pts::.cl b1 [pv,fv] 30::As) [] (.take 0 (.take 1 (.take 2 (.take 3 (.take 4 (.take 5 (.take 6 (.take 7 (.take 8 (.take 9 (.take 10 (.take 11 (.take 12 (.take 13 (.take 14 (.take 15 (.take 16 (.take 17 (.take 18 (.take 19 (.take 20 (.all [(21,.all [(22,.take 23 (.all [(24,.done)]))])])))))))))))))))))))))) ?_
   repeat' first|refine Kf ?_|intro _|constructor
   rename_i v8
   refine Zc2 (As:=.cl b5 [.slice p1 pts.length c1,v8] 30::.ow cV3 32 v8 (xs++[⟨f.x,f.z,f.y⟩])::.ow cV3 32 (.slice p1 pts.length c1) pts::.cl b1 [pv,fv] 30::.cl b2 [.slice none 0 0,.slice none 0 0] 30::As) v8 ?_
   rintro p8 c8 hv8
   have el:(xs++[(⟨f.x,f.z,f.y⟩:V3)]).length=k+1:=by simp [hlen]
   rw [el] at hv8
   subst hv8
   refine Post.round (k+1,p8,c8) (by simp only;omega) (by simp only;omega) Zae ?_
   show Ents _ (.ow cV3 _ (.slice p8 (k+1) c8) ((fcs.take (k+1)).map swapF)::.cl b5 [.slice p1 pts.length c1,.slice p8 (k+1) c8] _::_)
   rw [Zhn hp,hxs,show swapF f=⟨f.x,f.z,f.y⟩ from rfl]
   (exact Zaa)
  ·repeat' first|refine Kz ?_|intro _
   (refine Zac ?_)
   have hk':k=fcs.length:=by omega
   subst hk'
   rw [List.take_length] at hxs
   subst hxs
   rw [turnedM,if_pos hk]
   exact ⟨_,⟨_,_,rfl,rfl,rfl,rfl⟩,Zaa⟩
end Go.Proofs.YtcgcjknkfalijaaGreatDoor
namespace Go.Proofs.YtcgcjknkfalijaaGreatDoor
open Go Go.Sx
variable {w0:World} {As:List Ent} {pv fv:Value} {pts fcs:List V3}
theorem Zqg {k:Nat} (hk:k < 4):CallsS Tryz.prog w0 16 [.int .i64 (k:Int)] As fun v Bs=>∃ b1 b2,v=.tuple #[.slice (some ⟨b1,0,none⟩) (shapeP k).length (shapeP k).length,.slice (some ⟨b2,0,none⟩) (shapeF k).length (shapeF k).length] ∧
  Bs=.ow cV3 32 (.slice (some ⟨b1,0,none⟩) (shapeP k).length (shapeP k).length) (shapeP k)::.ow cV3 32 (.slice (some ⟨b2,0,none⟩) (shapeF k).length (shapeF k).length) (shapeF k)::As:=by
 rcases (by omega:k=0∨k=1∨k=2∨k=3) with rfl|rfl|rfl|rfl
 all_goals
  refine Zab Tryz.func16 rfl Tryz.ntmps16 rfl ?_
  repeat' first|refine Kz ?_|intro _
  (refine Zac ?_)
 ·rename_i b1 b2
  refine ⟨_,⟨b1,b2,rfl,rfl⟩,?_⟩
  refine Ents.trans (Za5 (n:=4) (cap:=4) cV3 (shapeF 0) rfl rfl rfl) ?_
  refine Ents.trans (Ents.perm (List.Perm.swap _ _ _)) ?_
  exact Za5 (n:=4) (cap:=4) cV3 (shapeP 0) rfl rfl rfl
 ·rename_i b1 b2
  refine ⟨_,⟨b1,b2,rfl,rfl⟩,?_⟩
  refine Ents.trans (Za5 (n:=8) (cap:=8) cV3 (shapeF 1) rfl rfl rfl) ?_
  refine Ents.trans (Ents.perm (List.Perm.swap _ _ _)) ?_
  exact Za5 (n:=6) (cap:=6) cV3 (shapeP 1) rfl rfl rfl
 ·rename_i b1 b2
  refine ⟨_,⟨b1,b2,rfl,rfl⟩,?_⟩
  refine Ents.trans (Za5 (n:=12) (cap:=12) cV3 (shapeF 2) rfl rfl rfl) ?_
  refine Ents.trans (Ents.perm (List.Perm.swap _ _ _)) ?_
  exact Za5 (n:=8) (cap:=8) cV3 (shapeP 2) rfl rfl rfl
 ·rename_i b1 b2
  refine ⟨_,⟨b1,b2,rfl,rfl⟩,?_⟩
  refine Ents.trans (Za5 (n:=12) (cap:=12) cV3 (shapeF 3) rfl rfl rfl) ?_
  refine Ents.trans (Ents.perm (List.Perm.swap _ _ _)) ?_
  exact Za5 (n:=8) (cap:=8) cV3 (shapeP 3) rfl rfl rfl
def MeshV (As:List Ent) (r:List V3 × List V3) (v:Value) (Bs:List Ent):Prop:=∃ pv fv,v=.agg #[pv,fv]∧pv.oneCell'=true∧fv.oneCell'=true∧Bs=.ow cV3 32 pv r.1::.ow cV3 32 fv r.2::As
set_option maxRecDepth 100000 in
set_option maxHeartbeats 4000000 in
theorem Zqu {kd sz a0 a1 a2:Int} {ov:Value} {off:List Int} {tn:Bool} (hkd:0≤kd∧kd≤255) (hsz:0≤sz∧sz≤255) (h0:-32768≤a0∧a0≤32767) (h1:-32768≤a1∧a1≤32767) (h2:-32768≤a2∧a2≤32767)
  (ho:∀ x∈off,-128≤x∧x≤127) (hol:off.length≤9223372036854775807) [RdIn As ov Int (cI .i8) off] :
  CallsS Tryz.prog w0 5 [.agg #[.int .u8 kd,.int .u8 sz,.int .i16 a0,.int .i16 a1,.int .i16 a2,ov,.bool tn]] As (MeshV As (draftM (kd % 4).toNat (1000+100 * sz) ⟨a0,a1,a2⟩ off tn)):=by
 refine Zar ov fun hov=>?_
 refine Zab Tryz.func5 rfl Tryz.ntmps5 rfl ?_
 obtain ⟨k,hk,hk4⟩:∃ k:Nat,kd % 4=(k:Int)∧k < 4:=⟨(kd % 4).toNat,by omega,by omega⟩
 have hd:=h0
 repeat' first|refine Kz ?_|intro _
 rename_i b1 b2
 rw [hk,Int.toNat_natCast]
 refine TL.call rfl rfl rfl (Zqg hk4) ?_
 rintro _ _ ⟨bp,bf,rfl,rfl⟩
 have hpl:=Zeh (k:=k)
 have hfl:=Zc7 (k:=k)
 have hin:=Zfi (k:=k)
 generalize hP:shapeP k=P at hpl hin ⊢
 have hin9:∀ p∈P,-3≤p.x∧p.x≤3∧-3≤p.y∧p.y≤3∧-3≤p.z∧p.z≤3:=hin
 obtain ⟨s,hs⟩:∃ s:Int,s=1000+100 * sz:=⟨_,rfl⟩
 have hs1:1000≤s∧s≤26500:=by omega
 repeat' first|refine Kz ?_|intro _
 rename_i b6 b7
 rw [← hs]
 refine Tri.ents (Zbm (T:=32) cV3) ?_
 refine Tri.ents (Zbm (T:=32) cV3) ?_
 obtain ⟨L,hL⟩:∃ L,L=P.map (V3.lay s ⟨a0,a1,a2⟩):=⟨_,rfl⟩
 have hLl:L.length=P.length:=by rw [hL];simp
 refine Tri.loop (ι:=Nat × (Option Addr × Nat) × Option Addr × Nat) (fun s=>s.1≤P.length) (fun s=>P.length - s.1)
  (fun x=>[(1,.pointer (some ⟨b1,0,none⟩)),(2,.pointer (some ⟨b2,0,none⟩)),(3,.slice (some ⟨bp,0,none⟩) P.length P.length),(4,.slice (some ⟨bf,0,none⟩) (shapeF k).length (shapeF k).length),(5,.int .i64 s),(6,.pointer (some ⟨b6,0,none⟩)),(7,.pointer (some ⟨b7,0,none⟩)),(8,.int .i64 x.1)])
  (fun x=>.ow cV3 32 (.slice x.2.1.1 x.1 x.2.1.2) (L.take x.1)::.ow cV3 32 (.slice x.2.2.1 x.1 x.2.2.2) ((L.take x.1).mapIdx (offP off))::.cl b7 [.slice x.2.1.1 x.1 x.2.1.2,.slice none 0 0] 30::.cl b6 [.slice x.2.2.1 x.1 x.2.2.2,.slice none 0 0] 30 ::
   .ow cV3 32 (.slice (some ⟨bp,0,none⟩) P.length P.length) P::.ow cV3 32 (.slice (some ⟨bf,0,none⟩) (shapeF k).length (shapeF k).length) (shapeF k) ::
   .cl b2 [.slice none 0 0,.slice none 0 0] 30::.cl b1 [.int .u8 kd,.int .u8 sz,.int .i16 a0,.int .i16 a1,.int .i16 a2,ov,.bool tn] 26::As) (0,(none,0),none,0) (by simp) Zae (by simp only [List.take_zero,List.mapIdx_nil];(exact Zaa)) ?_
 rintro ⟨i,⟨q1,c1⟩,q2,c2⟩ hil
 simp only at hil
 have hl1:(L.take i).length=i:=by simp;omega
 have hl2:((L.take i).mapIdx (offP off)).length=i:=by simp;omega
 generalize hx1:L.take i=X1 at hl1 hl2 ⊢
 generalize hx2:X1.mapIdx (offP off)=X2 at hl2 ⊢
 show Tri _ _ _ _ [(1,_),(2,_),(3,_),(4,_),(5,_),(6,_),(7,_),(8,.int .i64 (i:Int))] (.ow cV3 32 (.slice q1 i c1) X1::.ow cV3 32 (.slice q2 i c2) X2::.cl b7 [.slice q1 i c1,_] 30::.cl b6 [.slice q2 i c2,_] 30::_) _
 repeat' first|refine Kz ?_|intro _
 (refine Kx (fun hc=>?_) fun hc=>?_)
 ·obtain ⟨p,hp⟩:∃ p,P[i]?=some p:=⟨_,List.getElem?_eq_getElem (by omega)⟩
  obtain ⟨g1,g2,g3,g4,g5,g6⟩:=hin9 p (List.mem_of_getElem? hp)
  have m1:=Zax (m:=3) (n:=26500) (by decide) (by decide) g1 g2 (by omega:-26500≤s) hs1.2
  have m2:=Zax (m:=3) (n:=26500) (by decide) (by decide) g3 g4 (by omega:-26500≤s) hs1.2
  have m3:=Zax (m:=3) (n:=26500) (by decide) (by decide) g5 g6 (by omega:-26500≤s) hs1.2
  repeat' first|refine Kz ?_|intro _
  rename_i b9
  refine Zal 4 ?_
  iterate 3
   repeat' first|refine Kf ?_|intro _|constructor
   refine Zav (.take 0 (.take 1 (.take 2 (.take 3 (.take 4 (.take 5 (.take 6 (.take 7 (.take 8 (.take 9 (.take 10 (.take 11 (.take 12 (.all [(13,.done)])))))))))))))) ?_
  repeat' first|refine Kf ?_|intro _|constructor
  rename_i u1
  refine Zq4 u1 ?_
  have ll1:(X1++[(⟨p.x * s+a0,p.y * s+a1,p.z * s+a2⟩:V3)]).length=i+1:=by simp [hl1]
  rw [ll1]
  rintro p8 c8 rfl
  have hLi:L[i]?=some ⟨p.x * s+a0,p.y * s+a1,p.z * s+a2⟩:=by rw [hL,List.getElem?_map,hp];rfl
  refine Zal 4 ?_
  by_cases t0:off.length≤3 * i
  ·have o0:off[3 * i]?=none:=List.getElem?_eq_none t0
   have o1:off[3 * i+1]?=none:=List.getElem?_eq_none (by omega)
   have o2:off[3 * i+2]?=none:=List.getElem?_eq_none (by omega)
   repeat' first|refine Kz ?_|intro _
   rename_i u2
   refine Zc2 u2 ?_
   rw [show (X2++[(⟨p.x * s+a0,p.y * s+a1,p.z * s+a2⟩:V3)]).length=i+1 by simp [hl2]]
   rintro p9 c9 rfl
   refine Post.round (i+1,(p8,c8),p9,c9) (by simp only;omega) (by simp only;omega) Zae ?_
   show Ents _ (.ow cV3 _ (.slice p8 (i+1) c8) (L.take (i+1))::.ow cV3 _ (.slice p9 (i+1) c9) ((L.take (i+1)).mapIdx (offP off))::.cl b7 [.slice p8 (i+1) c8,_] _::.cl b6 [.slice p9 (i+1) c9,_] _::_)
   rw [Zbb hLi,hx1,hx2,List.take_add_one,hLi,hx1,show offP off i ⟨p.x * s+a0,p.y * s+a1,p.z * s+a2⟩=⟨p.x * s+a0,p.y * s+a1,p.z * s+a2⟩ by simp [offP,o0,o1,o2]]
   simp only [Option.toList_some]
   (exact Zaa)
  obtain ⟨x0,o0⟩:∃ x,off[3 * i]?=some x:=⟨_,List.getElem?_eq_getElem (by omega)⟩
  have y0:=ho x0 (List.mem_of_getElem? o0)
  by_cases t1:off.length≤3 * i+1
  ·have o1:off[3 * i+1]?=none:=List.getElem?_eq_none t1
   have o2:off[3 * i+2]?=none:=List.getElem?_eq_none (by omega)
   repeat' first|refine Kz ?_|intro _
   refine Zav (.take 0 (.take 1 (.take 2 (.take 3 (.take 4 (.take 5 (.take 6 (.take 7 (.take 8 (.take 9 (.take 10 (.take 11 (.take 12 (.take 13 (.take 14 (.all [(15,.done)])))))))))))))))) ?_
   repeat' first|refine Kf ?_|intro _|constructor
   rw [show (3 * (i:Int)+0)=((3 * i:Nat):Int) by omega]
   repeat' first|refine Kf ?_|intro _|constructor
   rename_i u2
   refine Zc2 u2 ?_
   rw [show (X2++[(⟨p.x * s+a0+x0,p.y * s+a1,p.z * s+a2⟩:V3)]).length=i+1 by simp [hl2]]
   rintro p9 c9 rfl
   refine Post.round (i+1,(p8,c8),p9,c9) (by simp only;omega) (by simp only;omega) Zae ?_
   show Ents _ (.ow cV3 _ (.slice p8 (i+1) c8) (L.take (i+1))::.ow cV3 _ (.slice p9 (i+1) c9) ((L.take (i+1)).mapIdx (offP off))::.cl b7 [.slice p8 (i+1) c8,_] _::.cl b6 [.slice p9 (i+1) c9,_] _::_)
   rw [Zbb hLi,hx1,hx2,List.take_add_one,hLi,hx1,show offP off i ⟨p.x * s+a0,p.y * s+a1,p.z * s+a2⟩=⟨p.x * s+a0+x0,p.y * s+a1,p.z * s+a2⟩ by simp [offP,o0,o1,o2]]
   simp only [Option.toList_some]
   (exact Zaa)
  obtain ⟨x1,o1⟩:∃ x,off[3 * i+1]?=some x:=⟨_,List.getElem?_eq_getElem (by omega)⟩
  have y1:=ho x1 (List.mem_of_getElem? o1)
  by_cases t2:off.length≤3 * i+2
  ·have o2:off[3 * i+2]?=none:=List.getElem?_eq_none t2
   repeat' first|refine Kz ?_|intro _
   refine Zav (.take 0 (.take 1 (.take 2 (.take 3 (.take 4 (.take 5 (.take 6 (.take 7 (.take 8 (.take 9 (.take 10 (.take 11 (.take 12 (.take 13 (.take 14 (.all [(15,.done)])))))))))))))))) ?_
   repeat' first|refine Kf ?_|intro _|constructor
   rw [show (3 * (i:Int)+0)=((3 * i:Nat):Int) by omega]
   repeat' first|refine Kf ?_|intro _|constructor
   refine Zav (.take 0 (.take 1 (.take 2 (.take 3 (.take 4 (.take 5 (.take 6 (.take 7 (.take 8 (.take 9 (.take 10 (.take 11 (.take 12 (.take 13 (.take 14 (.all [(15,.done)])))))))))))))))) ?_
   repeat' first|refine Kf ?_|intro _|constructor
   rw [show (3 * (i:Int)+(0+1))=((3 * i+1:Nat):Int) by omega]
   repeat' first|refine Kf ?_|intro _|constructor
   rename_i u2
   refine Zc2 u2 ?_
   rw [show (X2++[(⟨p.x * s+a0+x0,p.y * s+a1+x1,p.z * s+a2⟩:V3)]).length=i+1 by simp [hl2]]
   rintro p9 c9 rfl
   refine Post.round (i+1,(p8,c8),p9,c9) (by simp only;omega) (by simp only;omega) Zae ?_
   show Ents _ (.ow cV3 _ (.slice p8 (i+1) c8) (L.take (i+1))::.ow cV3 _ (.slice p9 (i+1) c9) ((L.take (i+1)).mapIdx (offP off))::.cl b7 [.slice p8 (i+1) c8,_] _::.cl b6 [.slice p9 (i+1) c9,_] _::_)
   rw [Zbb hLi,hx1,hx2,List.take_add_one,hLi,hx1,show offP off i ⟨p.x * s+a0,p.y * s+a1,p.z * s+a2⟩=⟨p.x * s+a0+x0,p.y * s+a1+x1,p.z * s+a2⟩ by simp [offP,o0,o1,o2]]
   simp only [Option.toList_some]
   (exact Zaa)
  ·obtain ⟨x2,o2⟩:∃ x,off[3 * i+2]?=some x:=⟨_,List.getElem?_eq_getElem (by omega)⟩
   have y2:=ho x2 (List.mem_of_getElem? o2)
   repeat' first|refine Kz ?_|intro _
   refine Zav (.take 0 (.take 1 (.take 2 (.take 3 (.take 4 (.take 5 (.take 6 (.take 7 (.take 8 (.take 9 (.take 10 (.take 11 (.take 12 (.take 13 (.take 14 (.all [(15,.done)])))))))))))))))) ?_
   repeat' first|refine Kf ?_|intro _|constructor
   rw [show (3 * (i:Int)+0)=((3 * i:Nat):Int) by omega]
   repeat' first|refine Kf ?_|intro _|constructor
   refine Zav (.take 0 (.take 1 (.take 2 (.take 3 (.take 4 (.take 5 (.take 6 (.take 7 (.take 8 (.take 9 (.take 10 (.take 11 (.take 12 (.take 13 (.take 14 (.all [(15,.done)])))))))))))))))) ?_
   repeat' first|refine Kf ?_|intro _|constructor
   rw [show (3 * (i:Int)+(0+1))=((3 * i+1:Nat):Int) by omega]
   repeat' first|refine Kf ?_|intro _|constructor
   refine Zav (.take 0 (.take 1 (.take 2 (.take 3 (.take 4 (.take 5 (.take 6 (.take 7 (.take 8 (.take 9 (.take 10 (.take 11 (.take 12 (.take 13 (.take 14 (.all [(15,.done)])))))))))))))))) ?_
   repeat' first|refine Kf ?_|intro _|constructor
   rw [show (3 * (i:Int)+(0+1+1))=((3 * i+2:Nat):Int) by omega]
   repeat' first|refine Kf ?_|intro _|constructor
   rename_i u2
   refine Zc2 u2 ?_
   rw [show (X2++[(⟨p.x * s+a0+x0,p.y * s+a1+x1,p.z * s+a2+x2⟩:V3)]).length=i+1 by simp [hl2]]
   rintro p9 c9 rfl
   refine Post.round (i+1,(p8,c8),p9,c9) (by simp only;omega) (by simp only;omega) Zae ?_
   show Ents _ (.ow cV3 _ (.slice p8 (i+1) c8) (L.take (i+1))::.ow cV3 _ (.slice p9 (i+1) c9) ((L.take (i+1)).mapIdx (offP off))::.cl b7 [.slice p8 (i+1) c8,_] _::.cl b6 [.slice p9 (i+1) c9,_] _::_)
   rw [Zbb hLi,hx1,hx2,List.take_add_one,hLi,hx1,show offP off i ⟨p.x * s+a0,p.y * s+a1,p.z * s+a2⟩=⟨p.x * s+a0+x0,p.y * s+a1+x1,p.z * s+a2+x2⟩ by simp [offP,o0,o1,o2]]
   simp only [Option.toList_some]
   (exact Zaa)
 ·repeat' first|refine Kz ?_|intro _
  have hi':i=P.length:=by omega
  rw [hi',← hLl,List.take_length] at hx1
  subst hx1
  have hk6:(shapeF k).length≤12:=hfl.2
  refine Kt rfl Zi7 ?_
  have hLP:L=plainM k s ⟨a0,a1,a2⟩:=by rw [hL,plainM,hP]
  have hX2:X2=offM off (plainM k s ⟨a0,a1,a2⟩):=by rw [← hx2,hLP,offM]
  repeat' first|refine Kz ?_|intro _
  refine Tri.mid (fun e' As'=>∃ u,e'=[(1,.pointer (some ⟨b1,0,none⟩)),(2,.pointer (some ⟨b2,0,none⟩)),(6,.pointer (some ⟨b6,0,none⟩))]∧u.oneCell'=true ∧
   As'=.ow cV3 32 u (baseM k s ⟨a0,a1,a2⟩ off)::.ow cV3 32 (.slice (some ⟨bf,0,none⟩) (shapeF k).length (shapeF k).length) (shapeF k)::.cl b6 [u,.slice (some ⟨bf,0,none⟩) (shapeF k).length (shapeF k).length] 30::.cl b2 [.slice none 0 0,.slice none 0 0] 30::.cl b1 [.int .u8 kd,.int .u8 sz,.int .i16 a0,.int .i16 a1,.int .i16 a2,ov,.bool tn] 26::As) ?_ ?_
  ·(refine Kx (fun hc=>?_) fun hc=>?_)
   ·obtain ⟨h1,h2⟩:=Zfz hc
    repeat' first|refine Kz ?_|intro _
    refine Za3 _ _ ⟨.slice q1 i c1,rfl,rfl,rfl⟩ Zae ?_
    rw [baseM,if_neg (by rw [← hX2];exact h1),← hLP]
    (exact Zaa)
   ·have h1:=Zfy hc
    repeat' first|refine Kz ?_|intro _
    refine Za3 _ _ ⟨.slice q2 i c2,rfl,rfl,rfl⟩ Zae ?_
    rw [baseM,if_pos (by rw [← hX2];exact h1),← hX2]
    (exact Zaa)
  ·rintro _ _ ⟨u,rfl,hu,rfl⟩
   have hd0:draftM k s ⟨a0,a1,a2⟩ off tn=if tn then (turnedM (baseM k s ⟨a0,a1,a2⟩ off) (shapeF k)).2 else (baseM k s ⟨a0,a1,a2⟩ off,shapeF k):=rfl
   rw [hd0]
   generalize baseM k s ⟨a0,a1,a2⟩ off=B
   repeat' first|refine Kz ?_|intro _
   cases tn
   ·repeat' first|refine Kz ?_|intro _
    (refine Zac ?_)
    exact ⟨_,⟨_,_,rfl,hu,rfl,rfl⟩,by simp only [Bool.false_eq_true,if_false];(exact Zaa)⟩
   ·repeat' first|refine Kz ?_|intro _
    refine TL.call rfl rfl rfl Zl4 ?_
    rintro _ _ ⟨pv,fv,rfl,hpv,hfv,rfl⟩
    repeat' first|refine Kz ?_|intro _
    (refine Zac ?_)
    exact ⟨_,⟨_,_,rfl,hpv,hfv,rfl⟩,by simp only [if_true];(exact Zaa)⟩
end Go.Proofs.YtcgcjknkfalijaaGreatDoor
namespace Go.Proofs.YtcgcjknkfalijaaGreatDoor
open Go Go.Sx
variable {w0:World} {As:List Ent} {pv fv:Value} {pts fcs:List V3}
end Go.Proofs.YtcgcjknkfalijaaGreatDoor
namespace Go.Proofs.YtcgcjknkfalijaaGreatDoor
open Go Go.Sx
variable {w0:World} {As:List Ent}
set_option maxRecDepth 4000 in
set_option maxHeartbeats 4000000 in
theorem Zp4 (ht:Tab w0):CQ Tryz.prog w0 4 [] As (.bool true):=by
 have hlP:tetP.length=4:=rfl
 have hlF:tetF.length=4:=rfl
 have hF3:tetF[3]?=some ⟨1,2,3⟩:=rfl
 have hF2:tetF[2]?=some ⟨0,3,2⟩:=rfl
 have hP3:tetP[3]?=some ⟨0,0,1000⟩:=rfl
 refine Zab Tryz.func4 rfl Tryz.ntmps4 rfl ?_
 repeat' first|refine Kz ?_|intro _
 refine TL.call rfl rfl rfl Zd2 ?_
 rintro _ _ ⟨bp,bf,rfl,rfl⟩
 repeat' first|refine Kz ?_|intro _
 refine TL.call rfl rfl rfl Zd2 ?_
 rintro _ _ ⟨bp1,bf1,rfl,rfl⟩
 repeat' first|refine Kz ?_|intro _
 refine TL.call rfl rfl rfl Zd2 ?_
 rintro _ _ ⟨bp2,bf2,rfl,rfl⟩
 repeat' first|refine Kz ?_|intro _
 refine TL.call rfl rfl rfl Zd2 ?_
 rintro _ _ ⟨bp3,bf3,rfl,rfl⟩
 repeat' first|refine Kz ?_|intro _
 refine TL.call rfl rfl rfl Zd2 ?_
 rintro _ _ ⟨bp4,bf4,rfl,rfl⟩
 repeat' first|refine Kz ?_|intro _
 have hok:okM tetP tetF:=by rw [okM,Zrs]
 refine Kt rfl (Zbq ht) ?_
 rw [if_pos hok,Zsf,Zp9]
 repeat' first|refine Kz ?_|intro _
 refine Kt rfl Zqt ?_
 rw [Znk]
 repeat' first|refine Kz ?_|intro _
 refine Kt rfl Zot ?_
 rw [Zsh]
 repeat' first|refine Kz ?_|intro _
 refine Kt rfl (Zcz ht) ?_
 rw [Zrs,show (decide (((((0:Nat),(0:Nat)).1:Nat):Int)=0∧((((0:Nat),(0:Nat)).2:Nat):Int)=0))=true by decide]
 repeat' first|refine Kz ?_|intro _
 refine TL.call rfl rfl rfl Zff ?_
 intro _ _ h
 obtain ⟨pv1,fv1,rfl,h1,h2,rfl⟩:=Zck Zjv h
 repeat' first|refine Kz ?_|intro _
 refine Kt rfl (Zbq ht) ?_
 rw [if_pos Zsg,Zp8,Zni]
 repeat' first|refine Kz ?_|intro _
 refine TL.call rfl rfl rfl (Ze5 (b:=⟨199000,0,0⟩)) ?_
 intro _ _ h
 obtain ⟨pv2,fv2,rfl,h3,h4,rfl⟩:=Zck Znj h
 have hlM:(tetP.map (·.add ⟨199000,0,0⟩)).length=4:=rfl
 have hM1:(tetP.map (·.add ⟨199000,0,0⟩))[1]?=some ⟨200000,0,0⟩:=rfl
 repeat' first|refine Kz ?_|intro _
 refine TL.call rfl rfl rfl (Ze5 (b:=⟨199001,0,0⟩)) ?_
 intro _ _ h
 obtain ⟨pv3,fv3,rfl,h5,h6,rfl⟩:=Zck Zl7 h
 repeat' first|refine Kz ?_|intro _
 refine Kt rfl (Zcz ht) ?_
 rw [show (tetF.drop 0).take (3 - 0)=tetF.take 3 from rfl,Zqa,show (decide (((((1:Nat),(1:Nat)).1:Nat):Int)=1∧((((1:Nat),(1:Nat)).2:Nat):Int)=1))=true by decide]
 repeat' first|refine Kz ?_|intro _
 refine Kt rfl (Zcz ht) ?_
 rw [Zl6,show (decide (((((5:Nat),(3:Nat)).1:Nat):Int)=5∧((((5:Nat),(3:Nat)).2:Nat):Int)=3))=true by decide]
 repeat' first|refine Kz ?_|intro _
 refine Kt rfl (Zcz ht) ?_
 rw [Zqb,show (decide (((((4:Nat),(2:Nat)).1:Nat):Int)=4∧((((4:Nat),(2:Nat)).2:Nat):Int)=2))=true by decide]
 repeat' first|refine Kz ?_|intro _
 refine Kt rfl (Zcz ht) ?_
 rw [Znh,show (decide (((((3:Nat),(2:Nat)).1:Nat):Int)=3∧((((3:Nat),(2:Nat)).2:Nat):Int)=2))=true by decide]
 repeat' first|refine Kz ?_|intro _
 exact Kv
end Go.Proofs.YtcgcjknkfalijaaGreatDoor
namespace Go.Proofs.YtcgcjknkfalijaaGreatDoor
open Go Go.Sx
variable {w0:World} {As:List Ent} {pv fv:Value} {pts fcs:List V3}
structure DraftA where
 kd:Int
 sz:Int
 a0:Int
 a1:Int
 a2:Int
 ov:Value
 off:List Int
 tn:Bool
def DraftA.ok (d:DraftA):Prop:=(0≤d.kd∧d.kd≤255)∧(0≤d.sz∧d.sz≤255)∧(-32768≤d.a0∧d.a0≤32767)∧(-32768≤d.a1∧d.a1≤32767)∧(-32768≤d.a2∧d.a2≤32767)∧(∀ x∈d.off,-128≤x∧x≤127)∧d.off.length≤9223372036854775807
def DraftA.cells (d:DraftA):List Value:=[.int .u8 d.kd,.int .u8 d.sz,.int .i16 d.a0,.int .i16 d.a1,.int .i16 d.a2,d.ov,.bool d.tn]
def DraftA.mesh (d:DraftA):List V3 × List V3:=draftM (d.kd % 4).toNat (1000+100 * d.sz) ⟨d.a0,d.a1,d.a2⟩ d.off d.tn
structure BendA where
 wh:Int
 ta:Int
 to_:Int
 n:Int
def BendA.ok (b:BendA):Prop:=(0≤b.wh∧b.wh≤255)∧(0≤b.ta∧b.ta≤255)∧(0≤b.to_∧b.to_≤255)
theorem Zon (d:DraftA) (h:d.ok) [RdIn As d.ov Int (cI .i8) d.off]:CallsS Tryz.prog w0 5 [.agg #[.int .u8 d.kd,.int .u8 d.sz,.int .i16 d.a0,.int .i16 d.a1,.int .i16 d.a2,d.ov,.bool d.tn]] As (MeshV As d.mesh):=by
 obtain ⟨h1,h2,h3,h4,h5,h6,h7⟩:=h
 exact Zqu h1 h2 h3 h4 h5 h6 h7
end Go.Proofs.YtcgcjknkfalijaaGreatDoor

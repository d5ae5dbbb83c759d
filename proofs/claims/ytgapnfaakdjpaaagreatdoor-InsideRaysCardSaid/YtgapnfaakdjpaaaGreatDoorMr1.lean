/- Walks: the reference of the chapter on meshes: its small functions. -/
import Derived.Test.YtgapnfaakdjpaaaGreatDoorMa9
import Derived.Test.YtgapnfaakdjpaaaGreatDoorPl
namespace Go.Proofs.YtgapnfaakdjpaaaGreatDoor
open Go Go.Sx
variable {w0:World} {As:List Ent} {pv fv:Value} {pts fcs:List V3}
theorem minusV35_ok {p q:V3} {m n:Int} (hp:p.in m) (hq:q.in n) (hm:m+n≤9223372036854775807) :
    CallsS Tryz.prog w0 88 [p.val,q.val] As fun v Bs=>v=(p.sub q).val∧Bs=As:=by
  obtain ⟨h1,h2,h3,h4,h5,h6⟩:=hp
  obtain ⟨k1,k2,k3,k4,k5,k6⟩:=hq
  refine CallsS.of_tri Tryz.func88 rfl Tryz.ntmps88 rfl ?_
  (repeat' first|(refine Ka ?_;first|refine Kb ?_|(refine Kc ?_;intro _))|refine Kd ?_|refine Kh ?_)
  (refine Post.ra ?_)
  exact ⟨_,⟨rfl,rfl⟩,by (exact Ents.au)⟩
theorem crossR_ok {p q:V3} {m n:Int} (hp:p.in m) (hq:q.in n) (g0:0≤m) (g1:0≤n) (hm:2 * (m * n)≤9223372036854775807) :
    CallsS Tryz.prog w0 133 [p.val,q.val] As fun v Bs=>v=(p.cross q).val∧Bs=As:=by
  obtain ⟨h1,h2,h3,h4,h5,h6⟩:=hp
  obtain ⟨k1,k2,k3,k4,k5,k6⟩:=hq
  have a1:=mul_in g0 g1 h3 h4 k5 k6
  have a2:=mul_in g0 g1 h5 h6 k3 k4
  have a3:=mul_in g0 g1 h5 h6 k1 k2
  have a4:=mul_in g0 g1 h1 h2 k5 k6
  have a5:=mul_in g0 g1 h1 h2 k3 k4
  have a6:=mul_in g0 g1 h3 h4 k1 k2
  refine CallsS.of_tri Tryz.func133 rfl Tryz.ntmps133 rfl ?_
  (repeat' first|(refine Ka ?_;first|refine Kb ?_|(refine Kc ?_;intro _))|refine Kd ?_|refine Kh ?_)
  (refine Post.ra ?_)
  exact ⟨_,⟨rfl,rfl⟩,by (exact Ents.au)⟩
theorem farR_ok {p:V3}:CallsS Tryz.prog w0 151 [p.val] As fun v Bs=>v=.bool (isFar p)∧Bs=As:=by
  refine CallsS.of_tri Tryz.func151 rfl Tryz.ntmps151 rfl ?_
  (repeat' first|(refine Ka ?_;first|refine Kb ?_|(refine Kc ?_;intro _))|refine Kd ?_|refine Kh ?_)
  refine Tri.unroll 4 ?_
  (repeat' (first|((show TL _ _ _ _ (_::_) _ _ _;first|refine TL.fa ?_|refine TL.ua ?_|(refine TL.rba ?_;intro _)|(refine TL.rra ?_;first|rintro _ _ ⟨rfl,rfl⟩|rintro _ _ rfl)|refine TL.offa ?_|refine TL.off0a ?_|refine TL.gu ?_|fail))|(refine Stp.h ?_)|((show Tri _ _ _ (.cond _ _ _) _ _ _;first|refine Tri.cTa ?_|refine Tri.cFa ?_|refine Tri.condTa ?_|refine Tri.condFa ?_|refine Tri.condNTa ?_|refine Tri.condNFa ?_|fail))|(first|refine TL.gsplit rfl rfl (fun hgs=>?_) (fun hgs=>?_)|refine TL.gsplitN rfl rfl (fun hgs=>?_) (fun hgs=>?_)|refine TT.gsplit rfl rfl rfl (fun hgs=>?_) (fun hgs=>?_)|refine TT.gsplitN rfl rfl rfl (fun hgs=>?_) (fun hgs=>?_))|((show Tri _ _ _ (.cond _ _ _) _ _ _;first|refine Tri.condP rfl (fun hc=>?_) (fun hc=>?_)|refine Tri.condN rfl (fun hc=>?_) (fun hc=>?_)))))
  all_goals
    (refine Post.ra ?_)
    exact ⟨_,⟨by simp [isFar];omega,rfl⟩,by (exact Ents.au)⟩
theorem placeR_ok {a b:Int} {n:Nat} [RdIn As fv V3 cV3 fcs] (hl:fcs.length≤1000000000) (hn:n≤fcs.length) :
    CallsS Tryz.prog w0 119 [.agg #[pv,fv],.int .i64 a,.int .i64 b,.int .i64 n] As fun v Bs=>v=.int .i64 (plcV (plc fcs (a,b) n))∧Bs=As:=by
  refine CallsS.of_tri Tryz.func119 rfl Tryz.ntmps119 rfl ?_
  (repeat' first|(refine Ka ?_;first|refine Kb ?_|(refine Kc ?_;intro _))|refine Kd ?_|(refine Ki ?_;refine Kj ?_)|exact Kk|refine Kl ?_ ?_|(refine Km ?_;first|refine Kn ?_|(refine Ko ?_;intro _))|(refine Kp ?_;first|refine Kq ?_|refine Kr ?_)|refine Kh ?_)
  rename_i b4
  refine Tri.loop (ι:=Nat) (fun k=>k≤n∧∀ (j:Nat) (y:V3),j < k→fcs[j]?=some y→hasE (a,b) y=false) (fun k=>n - k)
    (fun k=>[(1,.int .i64 a),(2,.int .i64 b),(3,.int .i64 n),(4,.pointer (some ⟨b4,0,none⟩)),(9,.int .i64 k)]) (fun _=>.cl b4 [pv,fv] 34::As) 0 ⟨by omega,fun _ _ h=>by omega⟩ (by (exact Sub.au)) (by (exact Ents.au)) ?_
  intro k ⟨hk,hf⟩
  (repeat' first|(refine Ka ?_;first|refine Kb ?_|(refine Kc ?_;intro _))|refine Kd ?_|(refine Ki ?_;refine Kj ?_)|exact Kk|refine Kl ?_ ?_|(refine Km ?_;first|refine Kn ?_|(refine Ko ?_;intro _))|(refine Kp ?_;first|refine Kq ?_|refine Kr ?_)|refine Kh ?_)
  ((show Tri _ _ _ (.cond _ _ _) _ _ _;first|refine Tri.condP rfl (fun hc=>?_) (fun hc=>?_)|refine Tri.condN rfl (fun hc=>?_) (fun hc=>?_)))
  · obtain ⟨p,hp⟩:∃ p,fcs[k]?=some p:=⟨_,List.getElem?_eq_getElem (by omega)⟩
    obtain ⟨px,py,pz⟩:=p
    (repeat' first|(refine Ka ?_;first|refine Kb ?_|(refine Kc ?_;intro _))|refine Kd ?_|(refine Ki ?_;refine Kj ?_)|exact Kk|refine Kl ?_ ?_|(refine Km ?_;first|refine Kn ?_|(refine Ko ?_;intro _))|(refine Kp ?_;first|refine Kq ?_|refine Kr ?_)|refine Kh ?_)
    refine Tri.unroll 4 ?_
    (repeat' (first|((show TL _ _ _ _ (_::_) _ _ _;first|refine TL.fa ?_|refine TL.ua ?_|(refine TL.rba ?_;intro _)|(refine TL.rra ?_;first|rintro _ _ ⟨rfl,rfl⟩|rintro _ _ rfl)|refine TL.offa ?_|refine TL.off0a ?_|refine TL.gu ?_|fail))|(refine Stp.h ?_)|(first|(show TT _ _ _ _ _ _ _ _ _;first|refine TT.takea ?_|refine TT.takeMa ?_|refine TT.takeOffa ?_|refine TT.gu ?_|fail)|exact TTs.nil|refine TTs.cons ?_ ?_|(show T1 _ _ _ _ _ _ _ _ _ _;first|refine T1.ua ?_|(refine T1.rba ?_;intro _)|(refine T1.rra ?_;first|rintro _ _ ⟨rfl,rfl⟩|rintro _ _ rfl)|refine T1.fa ?_|refine T1.offa ?_|refine T1.off0a ?_|fail)|(show TC _ _ _ _ _ _ _ _ _ _;first|refine TC.goa ?_|refine TC.fina ?_|fail))|((show Tri _ _ _ (.cond _ _ _) _ _ _;first|refine Tri.cTa ?_|refine Tri.cFa ?_|refine Tri.condTa ?_|refine Tri.condFa ?_|refine Tri.condNTa ?_|refine Tri.condNFa ?_|fail))|(first|refine TL.gsplit rfl rfl (fun hgs=>?_) (fun hgs=>?_)|refine TL.gsplitN rfl rfl (fun hgs=>?_) (fun hgs=>?_)|refine TT.gsplit rfl rfl rfl (fun hgs=>?_) (fun hgs=>?_)|refine TT.gsplitN rfl rfl rfl (fun hgs=>?_) (fun hgs=>?_))|((show Tri _ _ _ (.cond _ _ _) _ _ _;first|refine Tri.condP rfl (fun hc=>?_) (fun hc=>?_)|refine Tri.condN rfl (fun hc=>?_) (fun hc=>?_)))))
    all_goals first
      | ((refine Post.ra ?_);rw [plc_some (by omega) hp (by simp [hasE,V3.edge];omega) hf];exact ⟨_,⟨rfl,rfl⟩,by (exact Ents.au)⟩)
      | (refine Post.round (k+1) ⟨by omega,fun j y hj hy=>?_⟩ (by omega) (by (exact Sub.au)) (by (exact Ents.au))
         rcases Nat.lt_or_ge j k with h1|h1
         · exact hf j y h1 hy
         · rw [show j=k from (by omega),hp] at hy;cases hy;simp [hasE,V3.edge];omega)
  · (repeat' first|(refine Ka ?_;first|refine Kb ?_|(refine Kc ?_;intro _))|refine Kd ?_|(refine Ki ?_;refine Kj ?_)|exact Kk|refine Kl ?_ ?_|(refine Km ?_;first|refine Kn ?_|(refine Ko ?_;intro _))|(refine Kp ?_;first|refine Kq ?_|refine Kr ?_)|refine Kh ?_)
    (refine Post.ra ?_)
    rw [plc_none fun j y hj=>hf j y (by omega)]
    exact ⟨_,⟨rfl,rfl⟩,by (exact Ents.au)⟩
end Go.Proofs.YtgapnfaakdjpaaaGreatDoor
namespace Go.Proofs.YtgapnfaakdjpaaaGreatDoor
open Go Go.Sx
variable {w0:World} {As:List Ent} {pv fv:Value} {pts fcs:List V3}
theorem normalR_ok {n:Nat} {f:V3} (hf:fcs[n]?=some f) (hw:isWrong pts.length f=false) (hfar:∀ p∈pts,p.in 200000) [RdIn As fv V3 cV3 fcs] [RdIn As pv V3 cV3 pts] :
    CallsS Tryz.prog w0 87 [.agg #[pv,fv],.int .i64 n] As fun v Bs=>v=(normal pts f).val∧Bs=As:=by
  have hlt:=(List.getElem?_eq_some_iff.1 hf).1
  have hv:=hw
  simp only [isWrong,Bool.or_eq_false_iff,decide_eq_false_iff_not] at hv
  obtain ⟨i,hi⟩:∃ i:Nat,f.x=(i:Int):=⟨f.x.toNat,by omega⟩
  obtain ⟨j,hj⟩:∃ i:Nat,f.y=(i:Int):=⟨f.y.toNat,by omega⟩
  obtain ⟨l,hl'⟩:∃ i:Nat,f.z=(i:Int):=⟨f.z.toNat,by omega⟩
  obtain ⟨fx,fy,fz⟩:=f
  simp only at hi hj hl' hv
  subst hi hj hl'
  obtain ⟨p,ep⟩:∃ p,pts[i]?=some p:=⟨_,List.getElem?_eq_getElem (by omega)⟩
  obtain ⟨q,eq⟩:∃ p,pts[j]?=some p:=⟨_,List.getElem?_eq_getElem (by omega)⟩
  obtain ⟨r,er⟩:∃ p,pts[l]?=some p:=⟨_,List.getElem?_eq_getElem (by omega)⟩
  have hn:normal pts ⟨(i:Int),(j:Int),(l:Int)⟩=(q.sub p).cross (r.sub p):=by simp [normal,ptAt,ep,eq,er]
  rw [hn]
  have hp':=hfar p (List.mem_of_getElem? ep)
  have hq':=hfar q (List.mem_of_getElem? eq)
  have hr':=hfar r (List.mem_of_getElem? er)
  refine CallsS.of_tri Tryz.func87 rfl Tryz.ntmps87 rfl ?_
  (repeat' first|(refine Ka ?_;first|refine Kb ?_|(refine Kc ?_;intro _))|refine Kd ?_|refine Kh ?_)
  rename_i b2 b4
  refine Tri.mid (fun e' As'=>∃ b5 b6 b7,e'=[(4,.pointer (some ⟨b4,0,none⟩)),(5,.pointer (some ⟨b5,0,none⟩)),(6,.pointer (some ⟨b6,0,none⟩)),(7,.pointer (some ⟨b7,0,none⟩))] ∧
    As'=.cl b5 [.int .i64 p.x,.int .i64 p.y,.int .i64 p.z] 31::.cl b6 [.int .i64 q.x,.int .i64 q.y,.int .i64 q.z] 31::.cl b7 [.int .i64 r.x,.int .i64 r.y,.int .i64 r.z] 31::.cl b4 [.int .i64 0,.int .i64 0,.int .i64 0] 31::As) ?_ ?_
  · refine Tri.dr (.take 0 (.take 1 (.take 2 (.take 3 (.take 4 (.take 5 (.take 6 (.take 7 (.take 8 (.take 9 (.take 10 (.take 11 (.take 12 (.take 13 (.take 14 (.take 15 (.take 16 (.take 17 (.take 18 (.take 19 (.take 20 (.take 21 (.take 22 (.take 23 (.take 24 (.take 25 (.take 26 (.take 27 (.take 28 (.take 29 (.all [(30,.all [(31,.all [(32,.all [(33,.all [(34,.all [(35,.done)])])])]),(32,.all [(31,.all [(33,.all [(34,.all [(35,.done)])])])])]),(31,.all [(30,.all [(32,.all [(33,.all [(34,.all [(35,.done)])])])]),(32,.all [(30,.all [(33,.all [(34,.all [(35,.done)])])])])]),(32,.all [(30,.all [(31,.all [(33,.all [(34,.all [(35,.done)])])])]),(31,.all [(30,.all [(33,.all [(34,.all [(35,.done)])])])])])]))))))))))))))))))))))))))))))) ?_
    (repeat' first|(refine Ka ?_;first|refine Kb ?_|(refine Kc ?_;intro _))|refine Kd ?_|(refine Ki ?_;refine Kj ?_)|exact Kk|refine Kl ?_ ?_|(refine Km ?_;first|refine Kn ?_|(refine Ko ?_;intro _))|(refine Kp ?_;first|refine Kq ?_|refine Kr ?_)|refine Kh ?_)
    all_goals exact Post.cut _ _ ⟨_,_,_,rfl,rfl⟩ (by (exact Sub.au)) (by (exact Ents.au))
  · rintro e' As' ⟨b5,b6,b7,rfl,rfl⟩
    (repeat' first|(refine Ka ?_;first|refine Kb ?_|(refine Kc ?_;intro _))|refine Kd ?_|(refine Ki ?_;refine Kj ?_)|exact Kk|refine Kl ?_ ?_|(refine Km ?_;first|refine Kn ?_|(refine Ko ?_;intro _))|(refine Kp ?_;first|refine Kq ?_|refine Kr ?_)|refine Kh ?_)
    refine Tri.dr (.take 0 (.take 1 (.take 3 (.take 4 (.all [(2,.all [(5,.all [(6,.all [(7,.done)])])])]))))) ?_
    (repeat' first|(refine Ka ?_;first|refine Kb ?_|(refine Kc ?_;intro _))|refine Kd ?_|(refine Ki ?_;refine Kj ?_)|exact Kk|refine Kl ?_ ?_|(refine Km ?_;first|refine Kn ?_|(refine Ko ?_;intro _))|(refine Kp ?_;first|refine Kq ?_|refine Kr ?_)|refine Kh ?_)
    refine T1.call rfl rfl rfl rfl (minusV35_ok hq' hp' (by decide)) ?_
    rintro _ _ ⟨rfl,rfl⟩
    (repeat' first|(refine Ka ?_;first|refine Kb ?_|(refine Kc ?_;intro _))|refine Kd ?_|(refine Ki ?_;refine Kj ?_)|exact Kk|refine Kl ?_ ?_|(refine Km ?_;first|refine Kn ?_|(refine Ko ?_;intro _))|(refine Kp ?_;first|refine Kq ?_|refine Kr ?_)|refine Kh ?_)
    refine T1.call rfl rfl rfl rfl (minusV35_ok hr' hp' (by decide)) ?_
    rintro _ _ ⟨rfl,rfl⟩
    (repeat' first|(refine Ka ?_;first|refine Kb ?_|(refine Kc ?_;intro _))|refine Kd ?_|(refine Ki ?_;refine Kj ?_)|exact Kk|refine Kl ?_ ?_|(refine Km ?_;first|refine Kn ?_|(refine Ko ?_;intro _))|(refine Kp ?_;first|refine Kq ?_|refine Kr ?_)|refine Kh ?_)
    refine T1.call rfl rfl rfl rfl (crossR_ok (sub_in hq' hp') (sub_in hr' hp') (by decide) (by decide) (by decide)) ?_
    rintro _ _ ⟨rfl,rfl⟩
    (repeat' first|(refine Ka ?_;first|refine Kb ?_|(refine Kc ?_;intro _))|refine Kd ?_|(refine Ki ?_;refine Kj ?_)|exact Kk|refine Kl ?_ ?_|(refine Km ?_;first|refine Kn ?_|(refine Ko ?_;intro _))|(refine Kp ?_;first|refine Kq ?_|refine Kr ?_)|refine Kh ?_)
    (refine Post.ra ?_)
    exact ⟨_,⟨rfl,rfl⟩,by (exact Ents.au)⟩
def shapesM (pts fcs:List V3):Nat × Nat :=
  if pts.length < 4∨300 < pts.length then (1,0)
  else if fcs.length < 4∨600 < fcs.length then (1,1)
  else firstOf [farF pts,wrongF pts.length fcs,flatF pts fcs] 2
set_option maxHeartbeats 4000000 in
theorem shapesR_ok [RdIn As fv V3 cV3 fcs] [RdIn As pv V3 cV3 pts] :
    CallsS Tryz.prog w0 118 [.agg #[pv,fv]] As fun v Bs=>v=flawV (shapesM pts fcs)∧Bs=As:=by
  refine CallsS.rdOne pv fun hpv=>CallsS.rdOne fv fun hfv=>?_
  refine CallsS.of_tri Tryz.func118 rfl Tryz.ntmps118 rfl ?_
  (repeat' first|(refine Ka ?_;first|refine Kb ?_|(refine Kc ?_;intro _))|refine Kd ?_|(refine Ki ?_;refine Kj ?_)|exact Kk|refine Kl ?_ ?_|(refine Km ?_;first|refine Kn ?_|(refine Ko ?_;intro _))|(refine Kp ?_;first|refine Kq ?_|refine Kr ?_)|refine Kh ?_)
  rename_i b1
  (repeat' (first|((show TL _ _ _ _ (_::_) _ _ _;first|refine TL.fa ?_|refine TL.ua ?_|(refine TL.rba ?_;intro _)|(refine TL.rra ?_;first|rintro _ _ ⟨rfl,rfl⟩|rintro _ _ rfl)|refine TL.offa ?_|refine TL.off0a ?_|refine TL.gu ?_|fail))|(refine Stp.h ?_)|(first|(show TT _ _ _ _ _ _ _ _ _;first|refine TT.takea ?_|refine TT.takeMa ?_|refine TT.takeOffa ?_|refine TT.gu ?_|fail)|exact TTs.nil|refine TTs.cons ?_ ?_|(show T1 _ _ _ _ _ _ _ _ _ _;first|refine T1.ua ?_|(refine T1.rba ?_;intro _)|(refine T1.rra ?_;first|rintro _ _ ⟨rfl,rfl⟩|rintro _ _ rfl)|refine T1.fa ?_|refine T1.offa ?_|refine T1.off0a ?_|fail)|(show TC _ _ _ _ _ _ _ _ _ _;first|refine TC.goa ?_|refine TC.fina ?_|fail))|((show Tri _ _ _ (.cond _ _ _) _ _ _;first|refine Tri.cTa ?_|refine Tri.cFa ?_|refine Tri.condTa ?_|refine Tri.condFa ?_|refine Tri.condNTa ?_|refine Tri.condNFa ?_|fail))|(first|refine TL.gsplit rfl rfl (fun hgs=>?_) (fun hgs=>?_)|refine TL.gsplitN rfl rfl (fun hgs=>?_) (fun hgs=>?_)|refine TT.gsplit rfl rfl rfl (fun hgs=>?_) (fun hgs=>?_)|refine TT.gsplitN rfl rfl rfl (fun hgs=>?_) (fun hgs=>?_))|((show Tri _ _ _ (.cond _ _ _) _ _ _;first|refine Tri.condP rfl (fun hc=>?_) (fun hc=>?_)|refine Tri.condN rfl (fun hc=>?_) (fun hc=>?_)))))
  iterate 4
    (refine Post.ra ?_)
    refine ⟨_,⟨?_,rfl⟩,by (exact Ents.au)⟩
    simp only [shapesM,flawV]
    first
      | (rw [if_pos (by omega)];rfl)
      | (rw [if_neg (by omega),if_pos (by omega)];rfl)
    rotate_left 0
  have hM:shapesM pts fcs=firstOf [farF pts,wrongF pts.length fcs,flatF pts fcs] 2:=by
    rw [shapesM,if_neg (by omega),if_neg (by omega)]
  rw [hM]
  clear hM
  have hlp:pts.length≤300:=by omega
  have hlf:fcs.length≤600:=by omega
  refine Tri.loop (ι:=Nat) (fun k=>k≤pts.length∧∀ (j:Nat) (y:V3),j < k→pts[j]?=some y→isFar y=false) (fun k=>pts.length - k)
    (fun k=>[(1,.pointer (some ⟨b1,0,none⟩)),(4,.int .i64 pts.length),(5,.int .i64 k)]) (fun _=>.cl b1 [pv,fv] 34::As) 0 ⟨by omega,fun _ _ h=>by omega⟩ (by (exact Sub.au)) (by (exact Ents.au)) ?_
  intro k ⟨hk,hf⟩
  (repeat' first|(refine Ka ?_;first|refine Kb ?_|(refine Kc ?_;intro _))|refine Kd ?_|(refine Ki ?_;refine Kj ?_)|exact Kk|refine Kl ?_ ?_|(refine Km ?_;first|refine Kn ?_|(refine Ko ?_;intro _))|(refine Kp ?_;first|refine Kq ?_|refine Kr ?_)|refine Kh ?_)
  ((show Tri _ _ _ (.cond _ _ _) _ _ _;first|refine Tri.condP rfl (fun hc=>?_) (fun hc=>?_)|refine Tri.condN rfl (fun hc=>?_) (fun hc=>?_)))
  · obtain ⟨p,hp⟩:∃ p,pts[k]?=some p:=⟨_,List.getElem?_eq_getElem (by omega)⟩
    (repeat' first|(refine Ka ?_;first|refine Kb ?_|(refine Kc ?_;intro _))|refine Kd ?_|(refine Ki ?_;refine Kj ?_)|exact Kk|refine Kl ?_ ?_|(refine Km ?_;first|refine Kn ?_|(refine Ko ?_;intro _))|(refine Kp ?_;first|refine Kq ?_|refine Kr ?_)|refine Kh ?_)
    refine TL.call rfl rfl rfl (farR_ok (p:=p)) ?_
    rintro _ _ ⟨rfl,rfl⟩
    cases hb:isFar p
    · (repeat' first|(refine Ka ?_;first|refine Kb ?_|(refine Kc ?_;intro _))|refine Kd ?_|refine Kh ?_)
      refine Post.round (k+1) ⟨by omega,fun j y hj hy=>?_⟩ (by omega) (by (exact Sub.au)) (by (exact Ents.au))
      rcases Nat.lt_or_ge j k with h1|h1
      · exact hf j y h1 hy
      · rw [show j=k from (by omega),hp] at hy;cases hy;exact hb
    · (repeat' first|(refine Ka ?_;first|refine Kb ?_|(refine Kc ?_;intro _))|refine Kd ?_|refine Kh ?_)
      (refine Post.ra ?_)
      rw [farF,find_some hp hb hf]
      exact ⟨_,⟨rfl,rfl⟩,by (exact Ents.au)⟩
  have hfar:farF pts=none:=find_none fun j y hj=>hf j y (by have:=(List.getElem?_eq_some_iff.1 hj).1;omega) hj
  rw [hfar]
  (repeat' first|(refine Ka ?_;first|refine Kb ?_|(refine Kc ?_;intro _))|refine Kd ?_|refine Kh ?_)
  refine Tri.loop (ι:=Nat) (fun k=>k≤fcs.length∧∀ (j:Nat) (y:V3),j < k→fcs[j]?=some y→isWrong pts.length y=false) (fun k=>fcs.length - k)
    (fun k=>[(1,.pointer (some ⟨b1,0,none⟩)),(4,.int .i64 pts.length),(6,.int .i64 k)]) (fun _=>.cl b1 [pv,fv] 34::As) 0 ⟨by omega,fun _ _ h=>by omega⟩ (by (exact Sub.au)) (by (exact Ents.au)) ?_
  intro k ⟨hk,hf⟩
  (repeat' first|(refine Ka ?_;first|refine Kb ?_|(refine Kc ?_;intro _))|refine Kd ?_|refine Kh ?_)
  ((show Tri _ _ _ (.cond _ _ _) _ _ _;first|refine Tri.condP rfl (fun hc=>?_) (fun hc=>?_)|refine Tri.condN rfl (fun hc=>?_) (fun hc=>?_)))
  · obtain ⟨p,hp⟩:∃ p,fcs[k]?=some p:=⟨_,List.getElem?_eq_getElem (by omega)⟩
    (repeat' first|(refine Ka ?_;first|refine Kb ?_|(refine Kc ?_;intro _))|refine Kd ?_|refine Kh ?_)
    refine Tri.unroll 4 ?_
    (repeat' first|(refine Ka ?_;first|refine Kb ?_|(refine Kc ?_;intro _))|refine Kd ?_|refine Kh ?_)
    iterate 3
      refine Tri.dr (.take 0 (.take 1 (.take 2 (.take 3 (.take 4 (.take 5 (.take 6 (.take 7 (.take 8 (.take 9 (.take 10 (.take 11 (.take 12 (.take 13 (.take 14 (.take 15 (.take 16 (.take 17 (.take 18 (.take 19 (.take 20 (.take 21 (.done))))))))))))))))))))))) ?_
      (repeat' (first|((show TL _ _ _ _ (_::_) _ _ _;first|refine TL.fa ?_|refine TL.ua ?_|(refine TL.rba ?_;intro _)|(refine TL.rra ?_;first|rintro _ _ ⟨rfl,rfl⟩|rintro _ _ rfl)|refine TL.offa ?_|refine TL.off0a ?_|refine TL.gu ?_|fail))|(refine Stp.h ?_)|(first|(show TT _ _ _ _ _ _ _ _ _;first|refine TT.takea ?_|refine TT.takeMa ?_|refine TT.takeOffa ?_|refine TT.gu ?_|fail)|exact TTs.nil|refine TTs.cons ?_ ?_|(show T1 _ _ _ _ _ _ _ _ _ _;first|refine T1.ua ?_|(refine T1.rba ?_;intro _)|(refine T1.rra ?_;first|rintro _ _ ⟨rfl,rfl⟩|rintro _ _ rfl)|refine T1.fa ?_|refine T1.offa ?_|refine T1.off0a ?_|fail)|(show TC _ _ _ _ _ _ _ _ _ _;first|refine TC.goa ?_|refine TC.fina ?_|fail))|((show Tri _ _ _ (.cond _ _ _) _ _ _;first|refine Tri.cTa ?_|refine Tri.cFa ?_|refine Tri.condTa ?_|refine Tri.condFa ?_|refine Tri.condNTa ?_|refine Tri.condNFa ?_|fail))|(first|refine TL.gsplit rfl rfl (fun hgs=>?_) (fun hgs=>?_)|refine TL.gsplitN rfl rfl (fun hgs=>?_) (fun hgs=>?_)|refine TT.gsplit rfl rfl rfl (fun hgs=>?_) (fun hgs=>?_)|refine TT.gsplitN rfl rfl rfl (fun hgs=>?_) (fun hgs=>?_))|((show Tri _ _ _ (.cond _ _ _) _ _ _;first|refine Tri.condP rfl (fun hc=>?_) (fun hc=>?_)|refine Tri.condN rfl (fun hc=>?_) (fun hc=>?_)))))
      all_goals try ((refine Post.ra ?_);rw [wrongF,find_some hp (by simp [isWrong];omega) hf];exact ⟨_,⟨rfl,rfl⟩,by (exact Ents.au)⟩)
    refine Post.round (k+1) ⟨by omega,fun j y hj hy=>?_⟩ (by omega) (by (exact Sub.au)) (by (exact Ents.au))
    rcases Nat.lt_or_ge j k with h1|h1
    · exact hf j y h1 hy
    · rw [show j=k from (by omega),hp] at hy;cases hy;simp [isWrong];omega
  have hwr:wrongF pts.length fcs=none:=find_none fun j y hj=>hf j y (by have:=(List.getElem?_eq_some_iff.1 hj).1;omega) hj
  rw [hwr]
  (repeat' first|(refine Ka ?_;first|refine Kb ?_|(refine Kc ?_;intro _))|refine Kd ?_|(refine Ki ?_;refine Kj ?_)|exact Kk|refine Kl ?_ ?_|(refine Km ?_;first|refine Kn ?_|(refine Ko ?_;intro _))|(refine Kp ?_;first|refine Kq ?_|refine Kr ?_)|refine Kh ?_)
  refine Tri.loop (ι:=Nat) (fun k=>k≤fcs.length∧∀ (j:Nat) (y:V3),j < k→fcs[j]?=some y→isFlat pts y=false) (fun k=>fcs.length - k)
    (fun k=>[(1,.pointer (some ⟨b1,0,none⟩)),(4,.int .i64 pts.length),(9,.int .i64 k)]) (fun _=>.cl b1 [pv,fv] 34::As) 0 ⟨by omega,fun _ _ h=>by omega⟩ (by (exact Sub.au)) (by (exact Ents.au)) ?_
  intro k ⟨hk,hf⟩
  (repeat' first|(refine Ka ?_;first|refine Kb ?_|(refine Kc ?_;intro _))|refine Kd ?_|(refine Ki ?_;refine Kj ?_)|exact Kk|refine Kl ?_ ?_|(refine Km ?_;first|refine Kn ?_|(refine Ko ?_;intro _))|(refine Kp ?_;first|refine Kq ?_|refine Kr ?_)|refine Kh ?_)
  ((show Tri _ _ _ (.cond _ _ _) _ _ _;first|refine Tri.condP rfl (fun hc=>?_) (fun hc=>?_)|refine Tri.condN rfl (fun hc=>?_) (fun hc=>?_)))
  · obtain ⟨p,hp⟩:∃ p,fcs[k]?=some p:=⟨_,List.getElem?_eq_getElem (by omega)⟩
    (repeat' first|(refine Ka ?_;first|refine Kb ?_|(refine Kc ?_;intro _))|refine Kd ?_|(refine Ki ?_;refine Kj ?_)|exact Kk|refine Kl ?_ ?_|(refine Km ?_;first|refine Kn ?_|(refine Ko ?_;intro _))|(refine Kp ?_;first|refine Kq ?_|refine Kr ?_)|refine Kh ?_)
    refine TL.call rfl rfl rfl (normalR_ok hp (wrong_none hwr p (List.mem_of_getElem? hp)) (far_none hfar)) ?_
    rintro _ _ ⟨rfl,rfl⟩
    by_cases hb:normal pts p=V3.zero
    · (repeat' first|(refine Ka ?_;first|refine Kb ?_|(refine Kc ?_;intro _))|refine Kd ?_|(refine Ki ?_;refine Kj ?_)|exact Kk|refine Kl ?_ ?_|(refine Km ?_;first|refine Kn ?_|(refine Ko ?_;intro _))|(refine Kp ?_;first|refine Kq ?_|refine Kr ?_)|refine Kh ?_)
      (refine Post.ra ?_)
      rw [flatF,find_some hp (show isFlat pts p=true from decide_eq_true hb) hf]
      exact ⟨_,⟨rfl,rfl⟩,by (exact Ents.au)⟩
    · (repeat' first|(refine Ka ?_;first|refine Kb ?_|(refine Kc ?_;intro _))|refine Kd ?_|refine Kh ?_)
      refine Post.round (k+1) ⟨by omega,fun j y hj hy=>?_⟩ (by omega) (by (exact Sub.au)) (by (exact Ents.au))
      rcases Nat.lt_or_ge j k with h1|h1
      · exact hf j y h1 hy
      · rw [show j=k from (by omega),hp] at hy;cases hy;exact decide_eq_false hb
  have hfl:flatF pts fcs=none:=find_none fun j y hj=>hf j y (by have:=(List.getElem?_eq_some_iff.1 hj).1;omega) hj
  rw [hfl]
  (repeat' first|(refine Ka ?_;first|refine Kb ?_|(refine Kc ?_;intro _))|refine Kd ?_|refine Kh ?_)
  (refine Post.ra ?_)
  exact ⟨_,⟨rfl,rfl⟩,by (exact Ents.au)⟩
end Go.Proofs.YtgapnfaakdjpaaaGreatDoor
namespace Go.Proofs.YtgapnfaakdjpaaaGreatDoor
open Go Go.Sx
variable {w0:World} {As:List Ent} {pv fv:Value} {pts fcs:List V3}
theorem shapes_no (h:(shapesM pts fcs).1≠0):flawR pts fcs=shapesM pts fcs:=by
  unfold flawR
  unfold shapesM at h ⊢
  by_cases c1:pts.length < 4∨300 < pts.length
  · simp only [if_pos c1]
  by_cases c2:fcs.length < 4∨600 < fcs.length
  · simp only [if_neg c1,if_pos c2]
  simp only [if_neg c1,if_neg c2] at h ⊢
  cases h1:farF pts with
  | some i=>rfl
  | none =>
    cases h2:wrongF pts.length fcs with
    | some i=>rfl
    | none =>
      cases h3:flatF pts fcs with
      | some i=>rfl
      | none=>rw [h1,h2,h3] at h;exact absurd rfl h
theorem shapes_ok (h:(shapesM pts fcs).1=0):4≤pts.length∧pts.length≤300∧4≤fcs.length∧fcs.length≤600∧wrongF pts.length fcs=none ∧
    flawR pts fcs=firstOf [twiceR fcs,openR fcs,spareF pts.length fcs,apartF (owR fcs) fcs] 5:=by
  unfold flawR
  unfold shapesM at h
  by_cases c1:pts.length < 4∨300 < pts.length
  · simp [if_pos c1] at h
  by_cases c2:fcs.length < 4∨600 < fcs.length
  · simp [if_neg c1,if_pos c2] at h
  simp only [if_neg c1,if_neg c2] at h ⊢
  cases h1:farF pts with
  | some i=>rw [h1] at h;simp [firstOf] at h
  | none =>
    cases h2:wrongF pts.length fcs with
    | some i=>rw [h1,h2] at h;simp [firstOf] at h
    | none =>
      cases h3:flatF pts fcs with
      | some i=>rw [h1,h2,h3] at h;simp [firstOf] at h
      | none=>exact ⟨by omega,by omega,by omega,by omega,rfl,rfl⟩
theorem visitN_app {ow:Edg→Nat} {r:List Bool} {a b:List Nat} {f:V3}:∀ {k:Nat},visitN ow (r,a++b) f k=((visitN ow (r,b) f k).1,a++(visitN ow (r,b) f k).2)
  | 0=>rfl
  | k+1=>by
    rw [visitN,visitN,visitN_app]
    unfold visit1
    simp only
    split<;>simp
set_option maxRecDepth 100000 in
set_option maxHeartbeats 8000000 in
theorem flawR_ok [RdIn As fv V3 cV3 fcs] [RdIn As pv V3 cV3 pts] :
    CallsS Tryz.prog w0 71 [.agg #[pv,fv]] As fun v Bs=>v=flawV (flawR pts fcs)∧Bs=As:=by
  refine CallsS.rdOne pv fun hpv=>CallsS.rdOne fv fun hfv=>?_
  refine CallsS.of_tri Tryz.func71 rfl Tryz.ntmps71 rfl ?_
  (repeat' first|(refine Ka ?_;first|refine Kb ?_|(refine Kc ?_;intro _))|refine Kd ?_|refine Kh ?_)
  rename_i b1
  refine TL.call rfl rfl rfl shapesR_ok ?_
  rintro _ _ ⟨rfl,rfl⟩
  (repeat' first|(refine Ka ?_;first|refine Kb ?_|(refine Kc ?_;intro _))|refine Kd ?_|refine Kh ?_)
  by_cases hs:(shapesM pts fcs).1=0
  rotate_left
  · (repeat' first|(refine Ka ?_;first|refine Kb ?_|(refine Kc ?_;intro _))|refine Kd ?_|refine Kh ?_)
    (refine Post.ra ?_)
    exact ⟨_,⟨by rw [shapes_no hs];rfl,rfl⟩,by (exact Ents.au)⟩
  obtain ⟨hp4,hp3,hf4,hf6,hwr,hM⟩:=shapes_ok hs
  rw [hM]
  (repeat' first|(refine Ka ?_;first|refine Kb ?_|(refine Kc ?_;intro _))|refine Kd ?_|refine Kh ?_)
  refine Tri.loop (ι:=Nat) (fun k=>k≤fcs.length∧∀ (j:Nat) (y:V3),j < k→fcs[j]?=some y→twR fcs y j=false) (fun k=>fcs.length - k)
    (fun k=>[(1,.pointer (some ⟨b1,0,none⟩)),(6,.int .i64 fcs.length),(7,.int .i64 k)]) (fun _=>.cl b1 [pv,fv] 34::As) 0 ⟨by omega,fun _ _ h=>by omega⟩ (by (exact Sub.au)) (by (exact Ents.au)) ?_
  intro k ⟨hk,hf⟩
  (repeat' first|(refine Ka ?_;first|refine Kb ?_|(refine Kc ?_;intro _))|refine Kd ?_|refine Kh ?_)
  ((show Tri _ _ _ (.cond _ _ _) _ _ _;first|refine Tri.condP rfl (fun hc=>?_) (fun hc=>?_)|refine Tri.condN rfl (fun hc=>?_) (fun hc=>?_)))
  · obtain ⟨p,hp⟩:∃ p,fcs[k]?=some p:=⟨_,List.getElem?_eq_getElem (by omega)⟩
    have htw:twR fcs p k=true→twiceR fcs=some k:=fun h=>by
      refine findR_some (by omega) (by rw [hp];exact h) fun j hj=>?_
      rw [List.getElem?_eq_getElem (by omega)]
      exact hf j _ hj (List.getElem?_eq_getElem (by omega))
    (repeat' first|(refine Ka ?_;first|refine Kb ?_|(refine Kc ?_;intro _))|refine Kd ?_|refine Kh ?_)
    refine Tri.unroll 4 ?_
    (repeat' first|(refine Ka ?_;first|refine Kb ?_|(refine Kc ?_;intro _))|refine Kd ?_|refine Kh ?_)
    refine Tri.dr (.take 0 (.take 1 (.take 2 (.take 3 (.take 4 (.take 5 (.take 6 (.take 7 (.take 8 (.take 9 (.take 10 (.take 11 (.take 12 (.take 13 (.take 14 (.take 15 (.take 16 (.take 17 (.all [(18,.take 19 (.done))]))))))))))))))))))) ?_
    (repeat' first|(refine Ka ?_;first|refine Kb ?_|(refine Kc ?_;intro _))|refine Kd ?_|(refine Ki ?_;refine Kj ?_)|exact Kk|refine Kl ?_ ?_|(refine Km ?_;first|refine Kn ?_|(refine Ko ?_;intro _))|(refine Kp ?_;first|refine Kq ?_|refine Kr ?_)|refine Kh ?_)
    refine T1.call rfl rfl rfl rfl (placeR_ok (by omega) (by omega)) ?_
    rintro _ _ ⟨rfl,rfl⟩
    cases h0:plc fcs (p.x,p.y) k with
    | some g =>
      rw [plcV]
      (repeat' first|(refine Ka ?_;first|refine Kb ?_|(refine Kc ?_;intro _))|refine Kd ?_|(refine Ki ?_;refine Kj ?_)|exact Kk|refine Kl ?_ ?_|(refine Km ?_;first|refine Kn ?_|(refine Ko ?_;intro _))|(refine Kp ?_;first|refine Kq ?_|refine Kr ?_)|refine Kh ?_)
      (refine Post.ra ?_)
      rw [htw (by simp [twR,V3.edge,h0])]
      exact ⟨_,⟨rfl,rfl⟩,by (exact Ents.au)⟩
    | none =>
    rw [plcV]
    (repeat' first|(refine Ka ?_;first|refine Kb ?_|(refine Kc ?_;intro _))|refine Kd ?_|(refine Ki ?_;refine Kj ?_)|exact Kk|refine Kl ?_ ?_|(refine Km ?_;first|refine Kn ?_|(refine Ko ?_;intro _))|(refine Kp ?_;first|refine Kq ?_|refine Kr ?_)|refine Kh ?_)
    refine Tri.dr (.take 0 (.take 1 (.take 2 (.take 3 (.take 4 (.take 5 (.take 6 (.take 7 (.take 8 (.take 9 (.take 10 (.take 11 (.take 12 (.take 13 (.take 14 (.take 15 (.take 16 (.take 17 (.all [(18,.take 19 (.done))]))))))))))))))))))) ?_
    (repeat' first|(refine Ka ?_;first|refine Kb ?_|(refine Kc ?_;intro _))|refine Kd ?_|(refine Ki ?_;refine Kj ?_)|exact Kk|refine Kl ?_ ?_|(refine Km ?_;first|refine Kn ?_|(refine Ko ?_;intro _))|(refine Kp ?_;first|refine Kq ?_|refine Kr ?_)|refine Kh ?_)
    refine T1.call rfl rfl rfl rfl (placeR_ok (by omega) (by omega)) ?_
    rintro _ _ ⟨rfl,rfl⟩
    cases h1:plc fcs (p.y,p.z) k with
    | some g =>
      rw [plcV]
      (repeat' first|(refine Ka ?_;first|refine Kb ?_|(refine Kc ?_;intro _))|refine Kd ?_|(refine Ki ?_;refine Kj ?_)|exact Kk|refine Kl ?_ ?_|(refine Km ?_;first|refine Kn ?_|(refine Ko ?_;intro _))|(refine Kp ?_;first|refine Kq ?_|refine Kr ?_)|refine Kh ?_)
      (refine Post.ra ?_)
      rw [htw (by simp [twR,V3.edge,h1])]
      exact ⟨_,⟨rfl,rfl⟩,by (exact Ents.au)⟩
    | none =>
    rw [plcV]
    (repeat' first|(refine Ka ?_;first|refine Kb ?_|(refine Kc ?_;intro _))|refine Kd ?_|(refine Ki ?_;refine Kj ?_)|exact Kk|refine Kl ?_ ?_|(refine Km ?_;first|refine Kn ?_|(refine Ko ?_;intro _))|(refine Kp ?_;first|refine Kq ?_|refine Kr ?_)|refine Kh ?_)
    refine Tri.dr (.take 0 (.take 1 (.take 2 (.take 3 (.take 4 (.take 5 (.take 6 (.take 7 (.take 8 (.take 9 (.take 10 (.take 11 (.take 12 (.take 13 (.take 14 (.take 15 (.take 16 (.take 17 (.all [(18,.take 19 (.done))]))))))))))))))))))) ?_
    (repeat' first|(refine Ka ?_;first|refine Kb ?_|(refine Kc ?_;intro _))|refine Kd ?_|(refine Ki ?_;refine Kj ?_)|exact Kk|refine Kl ?_ ?_|(refine Km ?_;first|refine Kn ?_|(refine Ko ?_;intro _))|(refine Kp ?_;first|refine Kq ?_|refine Kr ?_)|refine Kh ?_)
    refine T1.call rfl rfl rfl rfl (placeR_ok (by omega) (by omega)) ?_
    rintro _ _ ⟨rfl,rfl⟩
    cases h2:plc fcs (p.z,p.x) k with
    | some g =>
      rw [plcV]
      (repeat' first|(refine Ka ?_;first|refine Kb ?_|(refine Kc ?_;intro _))|refine Kd ?_|(refine Ki ?_;refine Kj ?_)|exact Kk|refine Kl ?_ ?_|(refine Km ?_;first|refine Kn ?_|(refine Ko ?_;intro _))|(refine Kp ?_;first|refine Kq ?_|refine Kr ?_)|refine Kh ?_)
      (refine Post.ra ?_)
      rw [htw (by simp [twR,V3.edge,h2])]
      exact ⟨_,⟨rfl,rfl⟩,by (exact Ents.au)⟩
    | none =>
    rw [plcV]
    (repeat' first|(refine Ka ?_;first|refine Kb ?_|(refine Kc ?_;intro _))|refine Kd ?_|(refine Ki ?_;refine Kj ?_)|exact Kk|refine Kl ?_ ?_|(refine Km ?_;first|refine Kn ?_|(refine Ko ?_;intro _))|(refine Kp ?_;first|refine Kq ?_|refine Kr ?_)|refine Kh ?_)
    refine Post.round (k+1) ⟨by omega,fun j y hj hy=>?_⟩ (by omega) (by (exact Sub.au)) (by (exact Ents.au))
    rcases Nat.lt_or_ge j k with h3|h3
    · exact hf j y h3 hy
    · rw [show j=k from (by omega)] at hy ⊢;rw [hp] at hy;cases hy;simp [twR,V3.edge,h0,h1,h2]
  have htn:twiceR fcs=none:=findR_none fun j hj=>by
    rw [List.getElem?_eq_getElem hj]
    exact hf j _ (by omega) (List.getElem?_eq_getElem hj)
  rw [htn]
  (repeat' first|(refine Ka ?_;first|refine Kb ?_|(refine Kc ?_;intro _))|refine Kd ?_|(refine Ki ?_;refine Kj ?_)|exact Kk|refine Kl ?_ ?_|(refine Km ?_;first|refine Kn ?_|(refine Ko ?_;intro _))|(refine Kp ?_;first|refine Kq ?_|refine Kr ?_)|refine Kh ?_)
  refine Tri.loop (ι:=Nat) (fun k=>k≤fcs.length∧∀ (j:Nat) (y:V3),j < k→fcs[j]?=some y→opR fcs y=false) (fun k=>fcs.length - k)
    (fun k=>[(1,.pointer (some ⟨b1,0,none⟩)),(6,.int .i64 fcs.length),(9,.int .i64 k)]) (fun _=>.cl b1 [pv,fv] 34::As) 0 ⟨by omega,fun _ _ h=>by omega⟩ (by (exact Sub.au)) (by (exact Ents.au)) ?_
  intro k ⟨hk,hf⟩
  (repeat' first|(refine Ka ?_;first|refine Kb ?_|(refine Kc ?_;intro _))|refine Kd ?_|refine Kh ?_)
  ((show Tri _ _ _ (.cond _ _ _) _ _ _;first|refine Tri.condP rfl (fun hc=>?_) (fun hc=>?_)|refine Tri.condN rfl (fun hc=>?_) (fun hc=>?_)))
  · obtain ⟨p,hp⟩:∃ p,fcs[k]?=some p:=⟨_,List.getElem?_eq_getElem (by omega)⟩
    have hop:opR fcs p=true→openR fcs=some k:=fun h=>by
      refine findR_some (by omega) (by rw [hp];exact h) fun j hj=>?_
      rw [List.getElem?_eq_getElem (by omega)]
      exact hf j _ hj (List.getElem?_eq_getElem (by omega))
    (repeat' first|(refine Ka ?_;first|refine Kb ?_|(refine Kc ?_;intro _))|refine Kd ?_|refine Kh ?_)
    refine Tri.unroll 4 ?_
    (repeat' first|(refine Ka ?_;first|refine Kb ?_|(refine Kc ?_;intro _))|refine Kd ?_|refine Kh ?_)
    refine Tri.dr (.take 0 (.take 1 (.take 2 (.take 3 (.take 4 (.take 5 (.take 6 (.take 7 (.take 8 (.take 9 (.take 10 (.take 11 (.take 12 (.take 13 (.take 14 (.take 15 (.take 16 (.take 17 (.all [(18,.take 19 (.done))]))))))))))))))))))) ?_
    (repeat' first|(refine Ka ?_;first|refine Kb ?_|(refine Kc ?_;intro _))|refine Kd ?_|(refine Ki ?_;refine Kj ?_)|exact Kk|refine Kl ?_ ?_|(refine Km ?_;first|refine Kn ?_|(refine Ko ?_;intro _))|(refine Kp ?_;first|refine Kq ?_|refine Kr ?_)|refine Kh ?_)
    refine T1.call rfl rfl rfl rfl (placeR_ok (by omega) (Nat.le_refl _)) ?_
    rintro _ _ ⟨rfl,rfl⟩
    cases h0:plc fcs (p.y,p.x) fcs.length with
    | none =>
      rw [plcV]
      (repeat' first|(refine Ka ?_;first|refine Kb ?_|(refine Kc ?_;intro _))|refine Kd ?_|(refine Ki ?_;refine Kj ?_)|exact Kk|refine Kl ?_ ?_|(refine Km ?_;first|refine Kn ?_|(refine Ko ?_;intro _))|(refine Kp ?_;first|refine Kq ?_|refine Kr ?_)|refine Kh ?_)
      (refine Post.ra ?_)
      rw [hop (by simp [opR,V3.edge,h0])]
      exact ⟨_,⟨rfl,rfl⟩,by (exact Ents.au)⟩
    | some g0 =>
    rw [plcV]
    (repeat' first|(refine Ka ?_;first|refine Kb ?_|(refine Kc ?_;intro _))|refine Kd ?_|(refine Ki ?_;refine Kj ?_)|exact Kk|refine Kl ?_ ?_|(refine Km ?_;first|refine Kn ?_|(refine Ko ?_;intro _))|(refine Kp ?_;first|refine Kq ?_|refine Kr ?_)|refine Kh ?_)
    refine Tri.dr (.take 0 (.take 1 (.take 2 (.take 3 (.take 4 (.take 5 (.take 6 (.take 7 (.take 8 (.take 9 (.take 10 (.take 11 (.take 12 (.take 13 (.take 14 (.take 15 (.take 16 (.take 17 (.all [(18,.take 19 (.done))]))))))))))))))))))) ?_
    (repeat' first|(refine Ka ?_;first|refine Kb ?_|(refine Kc ?_;intro _))|refine Kd ?_|(refine Ki ?_;refine Kj ?_)|exact Kk|refine Kl ?_ ?_|(refine Km ?_;first|refine Kn ?_|(refine Ko ?_;intro _))|(refine Kp ?_;first|refine Kq ?_|refine Kr ?_)|refine Kh ?_)
    refine T1.call rfl rfl rfl rfl (placeR_ok (by omega) (Nat.le_refl _)) ?_
    rintro _ _ ⟨rfl,rfl⟩
    cases h1:plc fcs (p.z,p.y) fcs.length with
    | none =>
      rw [plcV]
      (repeat' first|(refine Ka ?_;first|refine Kb ?_|(refine Kc ?_;intro _))|refine Kd ?_|(refine Ki ?_;refine Kj ?_)|exact Kk|refine Kl ?_ ?_|(refine Km ?_;first|refine Kn ?_|(refine Ko ?_;intro _))|(refine Kp ?_;first|refine Kq ?_|refine Kr ?_)|refine Kh ?_)
      (refine Post.ra ?_)
      rw [hop (by simp [opR,V3.edge,h1])]
      exact ⟨_,⟨rfl,rfl⟩,by (exact Ents.au)⟩
    | some g1 =>
    rw [plcV]
    (repeat' first|(refine Ka ?_;first|refine Kb ?_|(refine Kc ?_;intro _))|refine Kd ?_|(refine Ki ?_;refine Kj ?_)|exact Kk|refine Kl ?_ ?_|(refine Km ?_;first|refine Kn ?_|(refine Ko ?_;intro _))|(refine Kp ?_;first|refine Kq ?_|refine Kr ?_)|refine Kh ?_)
    refine Tri.dr (.take 0 (.take 1 (.take 2 (.take 3 (.take 4 (.take 5 (.take 6 (.take 7 (.take 8 (.take 9 (.take 10 (.take 11 (.take 12 (.take 13 (.take 14 (.take 15 (.take 16 (.take 17 (.all [(18,.take 19 (.done))]))))))))))))))))))) ?_
    (repeat' first|(refine Ka ?_;first|refine Kb ?_|(refine Kc ?_;intro _))|refine Kd ?_|(refine Ki ?_;refine Kj ?_)|exact Kk|refine Kl ?_ ?_|(refine Km ?_;first|refine Kn ?_|(refine Ko ?_;intro _))|(refine Kp ?_;first|refine Kq ?_|refine Kr ?_)|refine Kh ?_)
    refine T1.call rfl rfl rfl rfl (placeR_ok (by omega) (Nat.le_refl _)) ?_
    rintro _ _ ⟨rfl,rfl⟩
    cases h2:plc fcs (p.x,p.z) fcs.length with
    | none =>
      rw [plcV]
      (repeat' first|(refine Ka ?_;first|refine Kb ?_|(refine Kc ?_;intro _))|refine Kd ?_|(refine Ki ?_;refine Kj ?_)|exact Kk|refine Kl ?_ ?_|(refine Km ?_;first|refine Kn ?_|(refine Ko ?_;intro _))|(refine Kp ?_;first|refine Kq ?_|refine Kr ?_)|refine Kh ?_)
      (refine Post.ra ?_)
      rw [hop (by simp [opR,V3.edge,h2])]
      exact ⟨_,⟨rfl,rfl⟩,by (exact Ents.au)⟩
    | some g2 =>
    rw [plcV]
    (repeat' first|(refine Ka ?_;first|refine Kb ?_|(refine Kc ?_;intro _))|refine Kd ?_|(refine Ki ?_;refine Kj ?_)|exact Kk|refine Kl ?_ ?_|(refine Km ?_;first|refine Kn ?_|(refine Ko ?_;intro _))|(refine Kp ?_;first|refine Kq ?_|refine Kr ?_)|refine Kh ?_)
    refine Post.round (k+1) ⟨by omega,fun j y hj hy=>?_⟩ (by omega) (by (exact Sub.au)) (by (exact Ents.au))
    rcases Nat.lt_or_ge j k with h3|h3
    · exact hf j y h3 hy
    · rw [show j=k from (by omega)] at hy;rw [hp] at hy;cases hy;simp [opR,V3.edge,h0,h1,h2]
  have hon:openR fcs=none:=findR_none fun j hj=>by
    rw [List.getElem?_eq_getElem hj]
    exact hf j _ (by omega) (List.getElem?_eq_getElem hj)
  have hown:∀ f∈fcs,∀ i,i < 3→∃ g,g < fcs.length∧plc fcs (f.edge i).swap fcs.length=some g:=by
    intro f hfm i hi
    obtain ⟨j,hj⟩:=List.mem_iff_getElem?.1 hfm
    have hop:=hf j f (by have:=(List.getElem?_eq_some_iff.1 hj).1;omega) hj
    simp only [opR,Bool.or_eq_false_iff] at hop
    have hne:plc fcs (f.edge i).swap fcs.length≠none:=by
      match i,hi with
      | 0,_=>intro e;rw [e] at hop;simp at hop
      | 1,_=>intro e;rw [e] at hop;simp at hop
      | 2,_=>intro e;rw [e] at hop;simp at hop
    obtain ⟨g,hg⟩:=Option.ne_none_iff_exists'.1 hne
    refine ⟨g,?_,hg⟩
    have:=(List.findIdx?_eq_some_iff_getElem.1 hg).1
    simp at this;omega
  rw [hon]
  (repeat' first|(refine Ka ?_;first|refine Kb ?_|(refine Kc ?_;intro _))|refine Kd ?_|refine Kh ?_)
  rename_i uv
  refine Tri.loop (ι:=Nat) (fun k=>k≤fcs.length) (fun k=>fcs.length - k)
    (fun k=>[(1,.pointer (some ⟨b1,0,none⟩)),(6,.int .i64 fcs.length),(11,uv),(12,.int .i64 k)])
    (fun k=>.ow cB 4 uv ((fcs.take k).foldl mark1 (List.replicate pts.length false))::.cl b1 [pv,fv] 34::As) 0 (by omega) (by (exact Sub.au)) (by simp only [List.take_zero,List.foldl_nil];(exact Ents.au)) ?_
  intro k hk
  generalize hu:(fcs.take k).foldl mark1 (List.replicate pts.length false)=us
  have hul:us.length=pts.length:=by rw [← hu,foldl_mark_length];simp
  (repeat' first|(refine Ka ?_;first|refine Kb ?_|(refine Kc ?_;intro _))|refine Kd ?_|refine Kh ?_)
  ((show Tri _ _ _ (.cond _ _ _) _ _ _;first|refine Tri.condP rfl (fun hc=>?_) (fun hc=>?_)|refine Tri.condN rfl (fun hc=>?_) (fun hc=>?_)))
  · obtain ⟨f,hp⟩:∃ p,fcs[k]?=some p:=⟨_,List.getElem?_eq_getElem (by omega)⟩
    have hv:=wrong_none hwr f (List.mem_of_getElem? hp)
    simp only [isWrong,Bool.or_eq_false_iff,decide_eq_false_iff_not] at hv
    obtain ⟨i,hi⟩:∃ i:Nat,f.x=(i:Int):=⟨f.x.toNat,by omega⟩
    obtain ⟨j,hj⟩:∃ i:Nat,f.y=(i:Int):=⟨f.y.toNat,by omega⟩
    obtain ⟨l,hl'⟩:∃ i:Nat,f.z=(i:Int):=⟨f.z.toNat,by omega⟩
    obtain ⟨fx,fy,fz⟩:=f
    simp only at hi hj hl' hv
    subst hi hj hl'
    have hm:mark1 us ⟨(i:Int),(j:Int),(l:Int)⟩=((us.set i true).set j true).set l true:=by simp [mark1]
    obtain ⟨q1,e1⟩:∃ p,us[i]?=some p:=⟨_,List.getElem?_eq_getElem (by omega)⟩
    obtain ⟨q2,e2⟩:∃ p,(us.set i true)[j]?=some p:=⟨_,List.getElem?_eq_getElem (by simp;omega)⟩
    obtain ⟨q3,e3⟩:∃ p,((us.set i true).set j true)[l]?=some p:=⟨_,List.getElem?_eq_getElem (by simp;omega)⟩
    have l2:(us.set i true).length=us.length:=List.length_set
    have l3:((us.set i true).set j true).length=us.length:=by rw [List.length_set,List.length_set]
    (repeat' first|(refine Ka ?_;first|refine Kb ?_|(refine Kc ?_;intro _))|refine Kd ?_|refine Kh ?_)
    refine Tri.unroll 4 ?_
    (repeat' first|(refine Ka ?_;first|refine Kb ?_|(refine Kc ?_;intro _))|refine Kd ?_|refine Kh ?_)
    refine Post.round (k+1) (by omega) (by omega) (by (exact Sub.au)) ?_
    simp only [take_succ_foldl hp,hu,hm]
    (exact Ents.au)
  have hk':k=fcs.length:=by omega
  subst hk'
  rw [List.take_length] at hu
  have hsp:spareF pts.length fcs=us.findIdx? (· == false):=by rw [spareF,usedF,hu]
  rw [hsp]
  (repeat' first|(refine Ka ?_;first|refine Kb ?_|(refine Kc ?_;intro _))|refine Kd ?_|refine Kh ?_)
  refine Tri.loop (ι:=Nat) (fun k=>k≤us.length∧∀ (j:Nat) (y:Bool),j < k→us[j]?=some y→(y == false)=false) (fun k=>us.length - k)
    (fun k=>[(1,.pointer (some ⟨b1,0,none⟩)),(6,.int .i64 fcs.length),(11,uv),(14,.int .i64 k)]) (fun _=>.ow cB 4 uv us::.cl b1 [pv,fv] 34::As) 0 ⟨by omega,fun _ _ h=>by omega⟩ (by (exact Sub.au)) (by (exact Ents.au)) ?_
  intro k ⟨hk,hf⟩
  (repeat' first|(refine Ka ?_;first|refine Kb ?_|(refine Kc ?_;intro _))|refine Kd ?_|refine Kh ?_)
  ((show Tri _ _ _ (.cond _ _ _) _ _ _;first|refine Tri.condP rfl (fun hc=>?_) (fun hc=>?_)|refine Tri.condN rfl (fun hc=>?_) (fun hc=>?_)))
  · obtain ⟨b,hb⟩:∃ b,us[k]?=some b:=⟨_,List.getElem?_eq_getElem (by omega)⟩
    cases b
    · (repeat' first|(refine Ka ?_;first|refine Kb ?_|(refine Kc ?_;intro _))|refine Kd ?_|refine Kh ?_)
      (refine Post.ra ?_)
      rw [find_some hb rfl hf]
      exact ⟨_,⟨rfl,rfl⟩,by (exact Ents.au)⟩
    · (repeat' first|(refine Ka ?_;first|refine Kb ?_|(refine Kc ?_;intro _))|refine Kd ?_|refine Kh ?_)
      refine Post.round (k+1) ⟨by omega,fun j y hj hy=>?_⟩ (by omega) (by (exact Sub.au)) (by (exact Ents.au))
      rcases Nat.lt_or_ge j k with h3|h3
      · exact hf j y h3 hy
      · rw [show j=k from (by omega)] at hy;rw [hb] at hy;cases hy;rfl
  have hsn:us.findIdx? (· == false)=none:=find_none fun j y hj=>hf j y (by have:=(List.getElem?_eq_some_iff.1 hj).1;omega) hj
  rw [hsn]
  have hrl:(List.replicate fcs.length false).length=fcs.length:=List.length_replicate
  (repeat' first|(refine Ka ?_;first|refine Kb ?_|(refine Kc ?_;intro _))|refine Kd ?_|refine Kh ?_)
  rename_i rv bq
  refine Tri.ents (Ents.clW (cN .i64) [0] rfl rfl rfl) ?_
  generalize hR:apartF (owR fcs) fcs=R
  generalize hW:owR fcs=W at *
  refine Tri.loop (ι:=Value × List Bool × List Nat × Nat) (fun s=>s.2.1.length=fcs.length∧(∀ x∈s.2.2.1,x < fcs.length)∧s.2.2.2≤s.2.2.1.length∧left (s.2.1,s.2.2.1)=fcs.length ∧
      (reach W fcs (left (s.2.1,s.2.2.1.drop s.2.2.2)) (s.2.1,s.2.2.1.drop s.2.2.2)).findIdx? (· == false)=R) (fun s=>fcs.length - s.2.2.2)
    (fun s=>[(1,.pointer (some ⟨b1,0,none⟩)),(6,.int .i64 fcs.length),(15,rv),(16,s.1),(17,.int .i64 s.2.2.2)])
    (fun s=>.ow (cN .i64) 3 s.1 s.2.2.1::.ow cB 4 rv s.2.1::.cl b1 [pv,fv] 34::As)
    (.slice (some ⟨bq,0,none⟩) 1 1,(List.replicate fcs.length false).set 0 true,[0],0) ⟨by simp,by simp;omega,by simp,?_,?_⟩ (by (exact Sub.au)) (by (exact Ents.au)) ?_
  · have h1:(List.replicate fcs.length false)[0]?=some false:=by rw [List.getElem?_replicate,if_pos (by omega)]
    have h2:=count_set h1
    simp only [left,List.length_cons,List.length_nil]
    rw [List.count_replicate_self] at h2
    omega
  · have h1:(List.replicate fcs.length false)[0]?=some false:=by rw [List.getElem?_replicate,if_pos (by omega)]
    have h2:=count_set h1
    rw [List.count_replicate_self] at h2
    have hlf:left ((List.replicate fcs.length false).set 0 true,[0])=fcs.length:=by
      simp only [left,List.length_cons,List.length_nil]
      omega
    simp only [List.drop_zero]
    rw [hlf,← hR]
    rfl
  rintro ⟨qv,r,lst,k⟩ ⟨hrn,hnx,hkl,hlf,hre⟩
  simp only at hrn hnx hkl hlf hre
  show Tri _ _ _ _ [(1,_),(6,_),(15,rv),(16,qv),(17,.int .i64 (k:Int))] (.ow (cN .i64) 3 qv lst::.ow cB 4 rv r::.cl b1 [pv,fv] 34::As) _
  have hll:lst.length≤600:=by simp only [left] at hlf;omega
  (repeat' first|(refine Ka ?_;first|refine Kb ?_|(refine Kc ?_;intro _))|refine Kd ?_|refine Kh ?_)
  ((show Tri _ _ _ (.cond _ _ _) _ _ _;first|refine Tri.condP rfl (fun hc=>?_) (fun hc=>?_)|refine Tri.condN rfl (fun hc=>?_) (fun hc=>?_)))
  · obtain ⟨x,hx0⟩:∃ x,lst[k]?=some x:=⟨_,List.getElem?_eq_getElem (by omega)⟩
    have hxn:x < fcs.length:=hnx x (List.mem_of_getElem? hx0)
    obtain ⟨f,hp⟩:∃ p,fcs[x]?=some p:=⟨_,List.getElem?_eq_getElem hxn⟩
    (repeat' first|(refine Ka ?_;first|refine Kb ?_|(refine Kc ?_;intro _))|refine Kd ?_|refine Kh ?_)
    refine Tri.dr (.take 0 (.take 1 (.take 2 (.take 3 (.take 4 (.take 5 (.take 6 (.take 7 (.all [(8,.all [(9,.done)])]))))))))) ?_
    (repeat' first|(refine Ka ?_;first|refine Kb ?_|(refine Kc ?_;intro _))|refine Kd ?_|(refine Ki ?_;refine Kj ?_)|exact Kk|refine Kl ?_ ?_|(refine Km ?_;first|refine Kn ?_|(refine Ko ?_;intro _))|(refine Kp ?_;first|refine Kq ?_|refine Kr ?_)|refine Kh ?_)
    rename_i bf
    have hdr:lst.drop k=x::lst.drop (k+1):=by
      rw [List.drop_eq_getElem_cons (by omega)]
      rw [List.getElem?_eq_getElem (by omega)] at hx0
      rw [Option.some.inj hx0]
    have hw:∀ i,i < 3→W (f.edge i).swap < r.length:=fun i hi=>by
      obtain ⟨g,g1,g2⟩:=hown f (List.mem_of_getElem? hp) i hi
      rw [← hW,owR,g2];simpa [hrn] using g1
    refine Tri.loop (ι:=Nat × Value) (fun i=>i.1≤3) (fun i=>3 - i.1) (fun i=>[(1,.pointer (some ⟨b1,0,none⟩)),(6,.int .i64 fcs.length),(15,rv),(16,i.2),(17,.int .i64 k),(18,.pointer (some ⟨bf,0,none⟩)),(19,.int .i64 i.1)])
      (fun i=>.ow (cN .i64) 3 i.2 (visitN W (r,lst) f i.1).2::.ow cB 4 rv (visitN W (r,lst) f i.1).1::.cl bf [.int .i64 f.x,.int .i64 f.y,.int .i64 f.z] 31::.cl b1 [pv,fv] 34::As)
      (0,qv) (by omega) (by (exact Sub.au)) (by simp only [visitN];(exact Ents.au)) ?_
    rintro ⟨j,v5⟩ hj
    simp only at hj
    have hsl:=visitN_left (ow:=W) (s:=(r,lst)) (f:=f) (k:=j) fun i hi=>hw i (by omega)
    have hsn:(visitN W (r,lst) f j).1.length=fcs.length:=by rw [visitN_length];exact hrn
    show Tri _ _ _ _ [(1,_),(6,_),(15,rv),(16,v5),(17,_),(18,_),(19,.int .i64 (j:Int))] (.ow (cN .i64) 3 v5 (visitN W (r,lst) f j).2::.ow cB 4 rv (visitN W (r,lst) f j).1::_) _
    have hstep:visitN W (r,lst) f (j+1)=visit1 W (visitN W (r,lst) f j) (f.edge j).swap:=rfl
    obtain ⟨r',q',hs⟩:∃ r' q',visitN W (r,lst) f j=(r',q'):=⟨_,_,rfl⟩
    simp only [hs] at hsl hsn hstep ⊢
    have hql:q'.length≤1000000000:=by simp only [left] at hsl hlf;omega
    (repeat' first|(refine Ka ?_;first|refine Kb ?_|(refine Kc ?_;intro _))|refine Kd ?_|refine Kh ?_)
    ((show Tri _ _ _ (.cond _ _ _) _ _ _;first|refine Tri.condP rfl (fun hc=>?_) (fun hc=>?_)|refine Tri.condN rfl (fun hc=>?_) (fun hc=>?_)))
    · obtain ⟨g,g1,g2⟩:=hown f (List.mem_of_getElem? hp) j (by omega)
      have hWg:W (f.edge j).swap=g:=by rw [← hW,owR,g2];rfl
      obtain ⟨b,hb⟩:∃ b,r'[g]?=some b:=⟨_,List.getElem?_eq_getElem (by omega)⟩
      have h3:j=0∨j=1∨j=2:=by omega
      rcases h3 with rfl|rfl|rfl
      · have g3:plc fcs (f.y,f.x) fcs.length=some g:=g2
        (repeat' first|(refine Ka ?_;first|refine Kb ?_|(refine Kc ?_;intro _))|refine Kd ?_|refine Kh ?_)
        refine Tri.dr (.take 0 (.take 1 (.take 2 (.take 3 (.take 4 (.take 5 (.take 6 (.take 7 (.take 8 (.take 9 (.all [(10,.take 11 (.done))]))))))))))) ?_
        (repeat' first|(refine Ka ?_;first|refine Kb ?_|(refine Kc ?_;intro _))|refine Kd ?_|(refine Ki ?_;refine Kj ?_)|exact Kk|refine Kl ?_ ?_|(refine Km ?_;first|refine Kn ?_|(refine Ko ?_;intro _))|(refine Kp ?_;first|refine Kq ?_|refine Kr ?_)|refine Kh ?_)
        refine T1.call rfl rfl rfl rfl (placeR_ok (by omega) (Nat.le_refl _)) ?_
        rintro _ _ ⟨rfl,rfl⟩
        rw [g3,plcV]
        cases b
        · have hv:visitN W (r,lst) f (0+1)=(r'.set g true,q'++[g]):=by rw [hstep,visit1,hWg];simp [hb]
          (repeat' first|(refine Ka ?_;first|refine Kb ?_|(refine Kc ?_;intro _))|refine Kd ?_|(refine Ki ?_;refine Kj ?_)|exact Kk|refine Kl ?_ ?_|(refine Km ?_;first|refine Kn ?_|(refine Ko ?_;intro _))|(refine Kp ?_;first|refine Kq ?_|refine Kr ?_)|refine Kh ?_)
          rename_i v6
          refine Post.round (0+1,v6) (by simp) (by simp) (by (exact Sub.au)) ?_
          show Ents _ (.ow _ _ v6 (visitN W (r,lst) f (0+1)).2::.ow _ _ rv (visitN W (r,lst) f (0+1)).1::_)
          rw [hv]
          show Ents _ (.ow _ _ v6 (q'++[g])::.ow _ _ rv (r'.set g true)::_)
          (exact Ents.au)
        · have hv:visitN W (r,lst) f (0+1)=(r',q'):=by rw [hstep,visit1,hWg];simp [hb]
          (repeat' first|(refine Ka ?_;first|refine Kb ?_|(refine Kc ?_;intro _))|refine Kd ?_|(refine Ki ?_;refine Kj ?_)|exact Kk|refine Kl ?_ ?_|(refine Km ?_;first|refine Kn ?_|(refine Ko ?_;intro _))|(refine Kp ?_;first|refine Kq ?_|refine Kr ?_)|refine Kh ?_)
          refine Post.round (0+1,v5) (by simp) (by simp) (by (exact Sub.au)) ?_
          show Ents _ (.ow _ _ v5 (visitN W (r,lst) f (0+1)).2::.ow _ _ rv (visitN W (r,lst) f (0+1)).1::_)
          rw [hv]
          show Ents _ (.ow _ _ v5 q'::.ow _ _ rv r'::_)
          (exact Ents.au)
      · have g3:plc fcs (f.z,f.y) fcs.length=some g:=g2
        (repeat' first|(refine Ka ?_;first|refine Kb ?_|(refine Kc ?_;intro _))|refine Kd ?_|(refine Ki ?_;refine Kj ?_)|exact Kk|refine Kl ?_ ?_|(refine Km ?_;first|refine Kn ?_|(refine Ko ?_;intro _))|(refine Kp ?_;first|refine Kq ?_|refine Kr ?_)|refine Kh ?_)
        refine Tri.dr (.take 0 (.take 1 (.take 2 (.take 3 (.take 4 (.take 5 (.take 6 (.take 7 (.take 8 (.take 9 (.all [(10,.take 11 (.done))]))))))))))) ?_
        (repeat' first|(refine Ka ?_;first|refine Kb ?_|(refine Kc ?_;intro _))|refine Kd ?_|(refine Ki ?_;refine Kj ?_)|exact Kk|refine Kl ?_ ?_|(refine Km ?_;first|refine Kn ?_|(refine Ko ?_;intro _))|(refine Kp ?_;first|refine Kq ?_|refine Kr ?_)|refine Kh ?_)
        refine T1.call rfl rfl rfl rfl (placeR_ok (by omega) (Nat.le_refl _)) ?_
        rintro _ _ ⟨rfl,rfl⟩
        rw [g3,plcV]
        cases b
        · have hv:visitN W (r,lst) f (1+1)=(r'.set g true,q'++[g]):=by rw [hstep,visit1,hWg];simp [hb]
          (repeat' first|(refine Ka ?_;first|refine Kb ?_|(refine Kc ?_;intro _))|refine Kd ?_|(refine Ki ?_;refine Kj ?_)|exact Kk|refine Kl ?_ ?_|(refine Km ?_;first|refine Kn ?_|(refine Ko ?_;intro _))|(refine Kp ?_;first|refine Kq ?_|refine Kr ?_)|refine Kh ?_)
          rename_i v6
          refine Post.round (1+1,v6) (by simp) (by simp) (by (exact Sub.au)) ?_
          show Ents _ (.ow _ _ v6 (visitN W (r,lst) f (1+1)).2::.ow _ _ rv (visitN W (r,lst) f (1+1)).1::_)
          rw [hv]
          show Ents _ (.ow _ _ v6 (q'++[g])::.ow _ _ rv (r'.set g true)::_)
          (exact Ents.au)
        · have hv:visitN W (r,lst) f (1+1)=(r',q'):=by rw [hstep,visit1,hWg];simp [hb]
          (repeat' first|(refine Ka ?_;first|refine Kb ?_|(refine Kc ?_;intro _))|refine Kd ?_|(refine Ki ?_;refine Kj ?_)|exact Kk|refine Kl ?_ ?_|(refine Km ?_;first|refine Kn ?_|(refine Ko ?_;intro _))|(refine Kp ?_;first|refine Kq ?_|refine Kr ?_)|refine Kh ?_)
          refine Post.round (1+1,v5) (by simp) (by simp) (by (exact Sub.au)) ?_
          show Ents _ (.ow _ _ v5 (visitN W (r,lst) f (1+1)).2::.ow _ _ rv (visitN W (r,lst) f (1+1)).1::_)
          rw [hv]
          show Ents _ (.ow _ _ v5 q'::.ow _ _ rv r'::_)
          (exact Ents.au)
      · have g3:plc fcs (f.x,f.z) fcs.length=some g:=g2
        (repeat' first|(refine Ka ?_;first|refine Kb ?_|(refine Kc ?_;intro _))|refine Kd ?_|(refine Ki ?_;refine Kj ?_)|exact Kk|refine Kl ?_ ?_|(refine Km ?_;first|refine Kn ?_|(refine Ko ?_;intro _))|(refine Kp ?_;first|refine Kq ?_|refine Kr ?_)|refine Kh ?_)
        refine Tri.dr (.take 0 (.take 1 (.take 2 (.take 3 (.take 4 (.take 5 (.take 6 (.take 7 (.take 8 (.take 9 (.all [(10,.take 11 (.done))]))))))))))) ?_
        (repeat' first|(refine Ka ?_;first|refine Kb ?_|(refine Kc ?_;intro _))|refine Kd ?_|(refine Ki ?_;refine Kj ?_)|exact Kk|refine Kl ?_ ?_|(refine Km ?_;first|refine Kn ?_|(refine Ko ?_;intro _))|(refine Kp ?_;first|refine Kq ?_|refine Kr ?_)|refine Kh ?_)
        refine T1.call rfl rfl rfl rfl (placeR_ok (by omega) (Nat.le_refl _)) ?_
        rintro _ _ ⟨rfl,rfl⟩
        rw [g3,plcV]
        cases b
        · have hv:visitN W (r,lst) f (2+1)=(r'.set g true,q'++[g]):=by rw [hstep,visit1,hWg];simp [hb]
          (repeat' first|(refine Ka ?_;first|refine Kb ?_|(refine Kc ?_;intro _))|refine Kd ?_|(refine Ki ?_;refine Kj ?_)|exact Kk|refine Kl ?_ ?_|(refine Km ?_;first|refine Kn ?_|(refine Ko ?_;intro _))|(refine Kp ?_;first|refine Kq ?_|refine Kr ?_)|refine Kh ?_)
          rename_i v6
          refine Post.round (2+1,v6) (by simp) (by simp) (by (exact Sub.au)) ?_
          show Ents _ (.ow _ _ v6 (visitN W (r,lst) f (2+1)).2::.ow _ _ rv (visitN W (r,lst) f (2+1)).1::_)
          rw [hv]
          show Ents _ (.ow _ _ v6 (q'++[g])::.ow _ _ rv (r'.set g true)::_)
          (exact Ents.au)
        · have hv:visitN W (r,lst) f (2+1)=(r',q'):=by rw [hstep,visit1,hWg];simp [hb]
          (repeat' first|(refine Ka ?_;first|refine Kb ?_|(refine Kc ?_;intro _))|refine Kd ?_|(refine Ki ?_;refine Kj ?_)|exact Kk|refine Kl ?_ ?_|(refine Km ?_;first|refine Kn ?_|(refine Ko ?_;intro _))|(refine Kp ?_;first|refine Kq ?_|refine Kr ?_)|refine Kh ?_)
          refine Post.round (2+1,v5) (by simp) (by simp) (by (exact Sub.au)) ?_
          show Ents _ (.ow _ _ v5 (visitN W (r,lst) f (2+1)).2::.ow _ _ rv (visitN W (r,lst) f (2+1)).1::_)
          rw [hv]
          show Ents _ (.ow _ _ v5 q'::.ow _ _ rv r'::_)
          (exact Ents.au)
    · have hj3:j=3:=by omega
      subst hj3
      have hw':∀ i,i < 3→W (f.edge i).swap < fcs.length:=fun i hi=>by rw [← hrn];exact hw i hi
      have hmem:=visitN_mem (ow:=W) (s:=(r,lst)) (f:=f) (n:=fcs.length) (k:=3) hw' hnx
      rw [hs] at hmem
      have happ:=visitN_app (ow:=W) (r:=r) (a:=lst.take (k+1)) (b:=lst.drop (k+1)) (f:=f) (k:=3)
      rw [List.take_append_drop,hs] at happ
      have hlt:(lst.take (k+1)).length=k+1:=by rw [List.length_take];omega
      have hq':q'.drop (k+1)=(visitN W (r,lst.drop (k+1)) f 3).2:=by
        rw [(Prod.mk.inj happ).2]
        rw [List.drop_append_of_le_length (by omega),List.drop_of_length_le (by omega),List.nil_append]
      have hr':r'=(visitN W (r,lst.drop (k+1)) f 3).1:=(Prod.mk.inj happ).1
      have hqk:k+1≤q'.length:=by rw [(Prod.mk.inj happ).2];simp only [List.length_append];omega
      have hl2:=visitN_left (ow:=W) (s:=(r,lst.drop (k+1))) (f:=f) (k:=3) hw
      have hle:left (r,lst.drop (k+1))+1=left (r,lst.drop k):=by rw [hdr];simp only [left,List.length_cons];omega
      (repeat' first|(refine Ka ?_;first|refine Kb ?_|(refine Kc ?_;intro _))|refine Kd ?_|refine Kh ?_)
      refine Post.round (v5,r',q',k+1) ⟨hsn,hmem,hqk,?_,?_⟩ ?_ (by (exact Sub.au)) (by (exact Ents.au))
      · show left (r',q')=fcs.length
        rw [← hlf];exact hsl
      · show (reach W fcs (left (r',q'.drop (k+1))) (r',q'.drop (k+1))).findIdx? (· == false)=R
        rw [← hre,← hle,hq',hr']
        rw [show left ((visitN W (r,lst.drop (k+1)) f 3).1,(visitN W (r,lst.drop (k+1)) f 3).2)=left (r,lst.drop (k+1)) from hl2,hdr]
        simp only [reach,hp,visit]
      · show fcs.length - (k+1) < fcs.length - k
        simp only [left] at hlf
        omega
  have hnil:lst.drop k=[]:=List.drop_of_length_le (by omega)
  rw [hnil,reach_nil] at hre
  rw [← hre]
  clear hre
  (repeat' first|(refine Ka ?_;first|refine Kb ?_|(refine Kc ?_;intro _))|refine Kd ?_|refine Kh ?_)
  refine Tri.loop (ι:=Nat) (fun k=>k≤r.length∧∀ (j:Nat) (y:Bool),j < k→r[j]?=some y→(y == false)=false) (fun k=>r.length - k)
    (fun k=>[(1,.pointer (some ⟨b1,0,none⟩)),(6,.int .i64 fcs.length),(15,rv),(21,.int .i64 k)]) (fun _=>.ow cB 4 rv r::.cl b1 [pv,fv] 34::As) 0 ⟨by omega,fun _ _ h=>by omega⟩ (by (exact Sub.au)) (by (exact Ents.au)) ?_
  intro k ⟨hk,hf⟩
  (repeat' first|(refine Ka ?_;first|refine Kb ?_|(refine Kc ?_;intro _))|refine Kd ?_|refine Kh ?_)
  ((show Tri _ _ _ (.cond _ _ _) _ _ _;first|refine Tri.condP rfl (fun hc=>?_) (fun hc=>?_)|refine Tri.condN rfl (fun hc=>?_) (fun hc=>?_)))
  · obtain ⟨b,hb⟩:∃ b,r[k]?=some b:=⟨_,List.getElem?_eq_getElem (by omega)⟩
    cases b
    · (repeat' first|(refine Ka ?_;first|refine Kb ?_|(refine Kc ?_;intro _))|refine Kd ?_|refine Kh ?_)
      (refine Post.ra ?_)
      rw [find_some hb rfl hf]
      exact ⟨_,⟨rfl,rfl⟩,by (exact Ents.au)⟩
    · (repeat' first|(refine Ka ?_;first|refine Kb ?_|(refine Kc ?_;intro _))|refine Kd ?_|refine Kh ?_)
      refine Post.round (k+1) ⟨by omega,fun j y hj hy=>?_⟩ (by omega) (by (exact Sub.au)) (by (exact Ents.au))
      rcases Nat.lt_or_ge j k with h3|h3
      · exact hf j y h3 hy
      · rw [show j=k from (by omega)] at hy;rw [hb] at hy;cases hy;rfl
  have hrn2:r.findIdx? (· == false)=none:=find_none fun j y hj=>hf j y (by have:=(List.getElem?_eq_some_iff.1 hj).1;omega) hj
  rw [hrn2]
  (repeat' first|(refine Ka ?_;first|refine Kb ?_|(refine Kc ?_;intro _))|refine Kd ?_|refine Kh ?_)
  (refine Post.ra ?_)
  exact ⟨_,⟨rfl,rfl⟩,by (exact Ents.au)⟩
theorem chkR35_ok [RdIn As fv V3 cV3 fcs] [RdIn As pv V3 cV3 pts] :
    CallsS Tryz.prog w0 34 [.agg #[pv,fv]] As fun v Bs=>v=.int .i64 (chkM pts fcs)∧Bs=As:=by
  refine CallsS.of_tri Tryz.func34 rfl Tryz.ntmps34 rfl ?_
  (repeat' first|(refine Ka ?_;first|refine Kb ?_|(refine Kc ?_;intro _))|refine Kd ?_|refine Kh ?_)
  refine TL.call rfl rfl rfl flawR_ok ?_
  rintro _ _ ⟨rfl,rfl⟩
  rw [flaw_eq]
  (repeat' first|(refine Ka ?_;first|refine Kb ?_|(refine Kc ?_;intro _))|refine Kd ?_|refine Kh ?_)
  ((show Tri _ _ _ (.cond _ _ _) _ _ _;first|refine Tri.condP rfl (fun hc=>?_) (fun hc=>?_)|refine Tri.condN rfl (fun hc=>?_) (fun hc=>?_)))
  · (repeat' first|(refine Ka ?_;first|refine Kb ?_|(refine Kc ?_;intro _))|refine Kd ?_|refine Kh ?_)
    (refine Post.ra ?_)
    exact ⟨_,⟨by rw [chkM,if_neg (by omega)],rfl⟩,by (exact Ents.au)⟩
  · (repeat' first|(refine Ka ?_;first|refine Kb ?_|(refine Kc ?_;intro _))|refine Kd ?_|refine Kh ?_)
    (refine Post.ra ?_)
    exact ⟨_,⟨by rw [chkM,if_pos (by omega)],rfl⟩,by (exact Ents.au)⟩
end Go.Proofs.YtgapnfaakdjpaaaGreatDoor
namespace Go.Proofs.YtgapnfaakdjpaaaGreatDoor
open Go Go.Sx
variable {w0:World} {As:List Ent} {pv fv:Value} {pts fcs:List V3}
theorem turnedR_ok [RdIn As fv V3 cV3 fcs] [RdIn As pv V3 cV3 pts] :
    CallsS Tryz.prog w0 35 [.agg #[pv,fv]] As (MeshR As (turnedM pts fcs)):=by
  refine CallsS.rdOne pv fun hpv=>CallsS.rdOne fv fun hfv=>?_
  refine CallsS.of_tri Tryz.func35 rfl Tryz.ntmps35 rfl ?_
  (repeat' first|(refine Ka ?_;first|refine Kb ?_|(refine Kc ?_;intro _))|refine Kd ?_|refine Kh ?_)
  rename_i b1 b2
  refine TL.call rfl rfl rfl chkR35_ok ?_
  rintro _ _ ⟨rfl,rfl⟩
  (repeat' first|(refine Ka ?_;first|refine Kb ?_|(refine Kc ?_;intro _))|refine Kd ?_|refine Kh ?_)
  ((show Tri _ _ _ (.cond _ _ _) _ _ _;first|refine Tri.condP rfl (fun hc=>?_) (fun hc=>?_)|refine Tri.condN rfl (fun hc=>?_) (fun hc=>?_)))
  · obtain ⟨h1,h2⟩:=chk_no hc
    rw [h2]
    (repeat' first|(refine Ka ?_;first|refine Kb ?_|(refine Kc ?_;intro _))|refine Kd ?_|refine Kh ?_)
    (refine Post.ra ?_)
    rw [turnedM,if_neg h1]
    obtain ⟨As',h3,h4⟩:=meshR_none (As:=As) (r:=350)
    exact ⟨As',h3,Ents.trans (by (exact Ents.au)) h4⟩
  · have hk:=chk_ok hc
    have hg:=okM_good.1 hk
    have hlp:=hg.p300
    have hlf:=hg.f600
    (repeat' first|(refine Ka ?_;first|refine Kb ?_|(refine Kc ?_;intro _))|refine Kd ?_|refine Kh ?_)
    rename_i v5
    refine TL.rdSl v5 ?_
    rintro p1 c1 rfl
    (repeat' first|(refine Ka ?_;first|refine Kb ?_|(refine Kc ?_;intro _))|refine Kd ?_|refine Kh ?_)
    refine TL.f rfl rfl (ExF.build (vs:=[.slice p1 pts.length c1]) rfl (l:=[.slice p1 pts.length c1,.slice none 0 0]) (fun w=>by kernel_rfl)) ?_
    (repeat' first|(refine Ka ?_;first|refine Kb ?_|(refine Kc ?_;intro _))|refine Kd ?_|refine Kh ?_)
    rename_i b5
    refine Tri.ents (Ents.nilW (T:=31) cV3) ?_
    refine Tri.loop (ι:=Nat × Option Addr × Nat) (fun s=>s.1≤fcs.length) (fun s=>fcs.length - s.1)
      (fun s=>[(1,.pointer (some ⟨b1,0,none⟩)),(2,.pointer (some ⟨b2,0,none⟩)),(5,.pointer (some ⟨b5,0,none⟩)),(6,.int .i64 s.1)])
      (fun s=>.ow cV3 31 (.slice s.2.1 s.1 s.2.2) ((fcs.take s.1).map swapF)::.cl b5 [.slice p1 pts.length c1,.slice s.2.1 s.1 s.2.2] 34::.ow cV3 31 (.slice p1 pts.length c1) pts::.cl b1 [pv,fv] 34::.cl b2 [.slice none 0 0,.slice none 0 0] 34::As) (0,none,0) (by simp) (by (exact Sub.au)) (by simp only [List.take_zero,List.map_nil];(exact Ents.au)) ?_
    rintro ⟨k,p2,c2⟩ hkl
    simp only at hkl
    have hlen:((fcs.take k).map swapF).length=k:=by simp;omega
    generalize hxs:(fcs.take k).map swapF=xs at hlen ⊢
    show Tri _ _ _ _ [(1,_),(2,_),(5,_),(6,.int .i64 (k:Int))] (.ow cV3 31 (.slice p2 k c2) xs::.cl b5 [.slice p1 pts.length c1,.slice p2 k c2] 34::_) _
    (repeat' first|(refine Ka ?_;first|refine Kb ?_|(refine Kc ?_;intro _))|refine Kd ?_|refine Kh ?_)
    ((show Tri _ _ _ (.cond _ _ _) _ _ _;first|refine Tri.condP rfl (fun hc=>?_) (fun hc=>?_)|refine Tri.condN rfl (fun hc=>?_) (fun hc=>?_)))
    · obtain ⟨f,hp⟩:∃ p,fcs[k]?=some p:=⟨_,List.getElem?_eq_getElem (by omega)⟩
      (repeat' first|(refine Ka ?_;first|refine Kb ?_|(refine Kc ?_;intro _))|refine Kd ?_|refine Kh ?_)
      refine Tri.dw (.cl b5 [.slice p1 pts.length c1,.slice p2 k c2] 34::.ow cV3 31 (.slice p1 pts.length c1) pts::.cl b1 [pv,fv] 34::As) [] (.take 0 (.take 1 (.take 2 (.take 3 (.take 4 (.take 5 (.take 6 (.take 7 (.take 8 (.take 9 (.take 10 (.take 11 (.take 12 (.take 13 (.take 14 (.take 15 (.take 16 (.take 17 (.take 18 (.take 19 (.take 20 (.all [(21,.all [(22,.take 23 (.all [(24,.done)]))])])))))))))))))))))))))) ?_
      (repeat' first|(refine Ka ?_;first|refine Kb ?_|(refine Kc ?_;intro _))|refine Kd ?_|(refine Ki ?_;refine Kj ?_)|exact Kk|refine Kl ?_ ?_|(refine Km ?_;first|refine Kn ?_|(refine Ko ?_;intro _))|(refine Kp ?_;first|refine Kq ?_|refine Kr ?_)|refine Kh ?_)
      rename_i v8
      refine Post.rdSl (As:=.cl b5 [.slice p1 pts.length c1,v8] 34::.ow cV3 31 v8 (xs++[⟨f.x,f.z,f.y⟩])::.ow cV3 31 (.slice p1 pts.length c1) pts::.cl b1 [pv,fv] 34::.cl b2 [.slice none 0 0,.slice none 0 0] 34::As) v8 ?_
      rintro p8 c8 hv8
      have el:(xs++[(⟨f.x,f.z,f.y⟩:V3)]).length=k+1:=by simp [hlen]
      rw [el] at hv8
      subst hv8
      refine Post.round (k+1,p8,c8) (by simp only;omega) (by simp only;omega) (by (exact Sub.au)) ?_
      show Ents _ (.ow cV3 _ (.slice p8 (k+1) c8) ((fcs.take (k+1)).map swapF)::.cl b5 [.slice p1 pts.length c1,.slice p8 (k+1) c8] _::_)
      rw [map_take_succ hp,hxs,show swapF f=⟨f.x,f.z,f.y⟩ from rfl]
      (exact Ents.au)
    · (repeat' first|(refine Ka ?_;first|refine Kb ?_|(refine Kc ?_;intro _))|refine Kd ?_|(refine Ki ?_;refine Kj ?_)|exact Kk|refine Kl ?_ ?_|(refine Km ?_;first|refine Kn ?_|(refine Ko ?_;intro _))|(refine Kp ?_;first|refine Kq ?_|refine Kr ?_)|refine Kh ?_)
      (refine Post.ra ?_)
      have hk':k=fcs.length:=by omega
      subst hk'
      rw [List.take_length] at hxs
      subst hxs
      rw [turnedM,if_pos hk]
      exact ⟨_,⟨_,_,rfl,rfl,rfl,rfl⟩,by (exact Ents.au)⟩
end Go.Proofs.YtgapnfaakdjpaaaGreatDoor

/- Walks: small functions of meshes. -/
import Derived.Test.YtkcnpgmgmgepoaaGreatDoorTy
import Derived.Test.YtkcnpgmgmgepoaaGreatDoorPl
namespace Go.Proofs.YtkcnpgmgmgepoaaGreatDoor
open Go Go.Sx
instance:ElC Tryz.prog 32 V3 cV3 ⟨0,0,0⟩ 24:=⟨by obtain ⟨i,h1,h2,h3,h4⟩:=(inferInstance:TI Tryz.prog 32 _ _ _).info;exact ⟨i,_,h1,h2,h3,h4,rfl⟩,by decide⟩
variable {w0:World} {As:List Ent} {pv fv:Value} {pts fcs:List V3}

instance:NG Tryz.prog 32:=⟨by kernel_rfl⟩
theorem less_ok {p q:V3} {m n:Int} (hp:p.in m) (hq:q.in n) (hm:m+n≤9223372036854775807) :
  CallsS Tryz.prog w0 325 [p.val,q.val] As fun v Bs=>v=(p.sub q).val∧Bs=As:=by
 obtain ⟨h1,h2,h3,h4,h5,h6⟩:=hp
 obtain ⟨k1,k2,k3,k4,k5,k6⟩:=hq
 refine CallsS.of_tri Tryz.func325 rfl Tryz.ntmps325 rfl ?_
 (repeat' first|(refine Ka ?_;first|refine Kb ?_|(refine Kc ?_;intro _))|refine Kd ?_|refine Kh ?_)
 (refine Post.ra ?_)
 exact ⟨_,⟨rfl,rfl⟩,by (exact Ents.au)⟩
theorem cross_ok {p q:V3} {m n:Int} (hp:p.in m) (hq:q.in n) (g0:0≤m) (g1:0≤n) (hm:2 * (m * n)≤9223372036854775807) :
  CallsS Tryz.prog w0 66 [p.val,q.val] As fun v Bs=>v=(p.cross q).val∧Bs=As:=by
 obtain ⟨h1,h2,h3,h4,h5,h6⟩:=hp
 obtain ⟨k1,k2,k3,k4,k5,k6⟩:=hq
 have a1:=mul_in g0 g1 h3 h4 k5 k6
 have a2:=mul_in g0 g1 h5 h6 k3 k4
 have a3:=mul_in g0 g1 h5 h6 k1 k2
 have a4:=mul_in g0 g1 h1 h2 k5 k6
 have a5:=mul_in g0 g1 h1 h2 k3 k4
 have a6:=mul_in g0 g1 h3 h4 k1 k2
 refine CallsS.of_tri Tryz.func66 rfl Tryz.ntmps66 rfl ?_
 (repeat' first|(refine Ka ?_;first|refine Kb ?_|(refine Kc ?_;intro _))|refine Kd ?_|refine Kh ?_)
 (refine Post.ra ?_)
 exact ⟨_,⟨rfl,rfl⟩,by (exact Ents.au)⟩
theorem far_ok {mv:Value} [RdIn As pv V3 cV3 pts] (hl:pts.length≤1000000000) :
  CallsS Tryz.prog w0 255 [.agg #[pv,fv,mv]] As fun v Bs=>v=found (farF pts)∧Bs=As:=by
 refine CallsS.of_tri Tryz.func255 rfl Tryz.ntmps255 rfl ?_
 (repeat' first|(refine Ka ?_;first|refine Kb ?_|(refine Kc ?_;intro _))|refine Kd ?_|refine Kh ?_)
 rename_i b1
 refine Tri.loop (ι:=Nat) (fun k=>k≤pts.length∧∀ (j:Nat) (y:V3),j < k→pts[j]?=some y→isFar y=false) (fun k=>pts.length - k)
  (fun k=>[(1,.pointer (some ⟨b1,0,none⟩)),(10,pv),(11,.int .i64 pts.length),(12,.int .i64 k)]) (fun _=>.cl b1 [pv,fv,mv] 230::As) 0 ⟨by omega,fun _ _ h=>by omega⟩ (by (exact Sub.au)) (by (exact Ents.au)) ?_
 intro k ⟨hk,hf⟩
 (repeat' first|(refine Ka ?_;first|refine Kb ?_|(refine Kc ?_;intro _))|refine Kd ?_|refine Kh ?_)
 ((show Tri _ _ _ (.cond _ _ _) _ _ _;first|refine Tri.condP rfl (fun hc=>?_) (fun hc=>?_)|refine Tri.condN rfl (fun hc=>?_) (fun hc=>?_)))
 ·obtain ⟨p,hp⟩:∃ p,pts[k]?=some p:=⟨_,List.getElem?_eq_getElem (by omega)⟩
  (repeat' first|(refine Ka ?_;first|refine Kb ?_|(refine Kc ?_;intro _))|refine Kd ?_|refine Kh ?_)
  refine Tri.unroll 4 ?_
  (repeat' (first|((show TL _ _ _ _ (_::_) _ _ _;first|refine TL.fa ?_|refine TL.ua ?_|(refine TL.rba ?_;intro _)|(refine TL.rra ?_;first|rintro _ _ ⟨rfl,rfl⟩|rintro _ _ rfl)|refine TL.offa ?_|refine TL.off0a ?_|refine TL.gu ?_|fail))|(refine Stp.h ?_)|((show Tri _ _ _ (.cond _ _ _) _ _ _;first|refine Tri.cTa ?_|refine Tri.cFa ?_|refine Tri.condTa ?_|refine Tri.condFa ?_|refine Tri.condNTa ?_|refine Tri.condNFa ?_|fail))|(first|refine TL.gsplit rfl rfl (fun hgs=>?_) (fun hgs=>?_)|refine TL.gsplitN rfl rfl (fun hgs=>?_) (fun hgs=>?_)|refine TT.gsplit rfl rfl rfl (fun hgs=>?_) (fun hgs=>?_)|refine TT.gsplitN rfl rfl rfl (fun hgs=>?_) (fun hgs=>?_))|((show Tri _ _ _ (.cond _ _ _) _ _ _;first|refine Tri.condP rfl (fun hc=>?_) (fun hc=>?_)|refine Tri.condN rfl (fun hc=>?_) (fun hc=>?_)))))
  all_goals first
   | ((refine Post.ra ?_);rw [farF,find_some hp (by simp [isFar];omega) hf];exact ⟨_,⟨rfl,rfl⟩,by (exact Ents.au)⟩)
   | (refine Post.round (k+1) ⟨by omega,fun j y hj hy=>?_⟩ (by omega) (by (exact Sub.au)) (by (exact Ents.au))
      rcases Nat.lt_or_ge j k with h1|h1
      ·exact hf j y h1 hy
      ·rw [show j=k from (by omega),hp] at hy;cases hy;simp [isFar];omega)
 ·(repeat' first|(refine Ka ?_;first|refine Kb ?_|(refine Kc ?_;intro _))|refine Kd ?_|refine Kh ?_)
  (refine Post.ra ?_)
  have:farF pts=none:=find_none fun j y hj=>hf j y (by have:=(List.getElem?_eq_some_iff.1 hj).1;omega) hj
  rw [this];exact ⟨_,⟨rfl,rfl⟩,by (exact Ents.au)⟩
theorem wrong_ok {mv:Value} [RdIn As fv V3 cV3 fcs] [RdIn As pv V3 cV3 pts] (hl:fcs.length≤1000000000) :
  CallsS Tryz.prog w0 256 [.agg #[pv,fv,mv]] As fun v Bs=>v=found (wrongF pts.length fcs)∧Bs=As:=by
 refine CallsS.of_tri Tryz.func256 rfl Tryz.ntmps256 rfl ?_
 (repeat' first|(refine Ka ?_;first|refine Kb ?_|(refine Kc ?_;intro _))|refine Kd ?_|refine Kh ?_)
 rename_i b1
 refine Tri.loop (ι:=Nat) (fun k=>k≤fcs.length∧∀ (j:Nat) (y:V3),j < k→fcs[j]?=some y→isWrong pts.length y=false) (fun k=>fcs.length - k)
  (fun k=>[(1,.pointer (some ⟨b1,0,none⟩)),(10,fv),(11,.int .i64 fcs.length),(12,.int .i64 k)]) (fun _=>.cl b1 [pv,fv,mv] 230::As) 0 ⟨by omega,fun _ _ h=>by omega⟩ (by (exact Sub.au)) (by (exact Ents.au)) ?_
 intro k ⟨hk,hf⟩
 (repeat' first|(refine Ka ?_;first|refine Kb ?_|(refine Kc ?_;intro _))|refine Kd ?_|refine Kh ?_)
 ((show Tri _ _ _ (.cond _ _ _) _ _ _;first|refine Tri.condP rfl (fun hc=>?_) (fun hc=>?_)|refine Tri.condN rfl (fun hc=>?_) (fun hc=>?_)))
 ·obtain ⟨p,hp⟩:∃ p,fcs[k]?=some p:=⟨_,List.getElem?_eq_getElem (by omega)⟩
  (repeat' first|(refine Ka ?_;first|refine Kb ?_|(refine Kc ?_;intro _))|refine Kd ?_|refine Kh ?_)
  refine Tri.unroll 4 ?_
  (repeat' (first|((show TL _ _ _ _ (_::_) _ _ _;first|refine TL.fa ?_|refine TL.ua ?_|(refine TL.rba ?_;intro _)|(refine TL.rra ?_;first|rintro _ _ ⟨rfl,rfl⟩|rintro _ _ rfl)|refine TL.offa ?_|refine TL.off0a ?_|refine TL.gu ?_|fail))|(refine Stp.h ?_)|((show Tri _ _ _ (.cond _ _ _) _ _ _;first|refine Tri.cTa ?_|refine Tri.cFa ?_|refine Tri.condTa ?_|refine Tri.condFa ?_|refine Tri.condNTa ?_|refine Tri.condNFa ?_|fail))|(first|refine TL.gsplit rfl rfl (fun hgs=>?_) (fun hgs=>?_)|refine TL.gsplitN rfl rfl (fun hgs=>?_) (fun hgs=>?_)|refine TT.gsplit rfl rfl rfl (fun hgs=>?_) (fun hgs=>?_)|refine TT.gsplitN rfl rfl rfl (fun hgs=>?_) (fun hgs=>?_))|((show Tri _ _ _ (.cond _ _ _) _ _ _;first|refine Tri.condP rfl (fun hc=>?_) (fun hc=>?_)|refine Tri.condN rfl (fun hc=>?_) (fun hc=>?_)))))
  all_goals first
   | ((refine Post.ra ?_);rw [wrongF,find_some hp (by simp [isWrong];omega) hf];exact ⟨_,⟨rfl,rfl⟩,by (exact Ents.au)⟩)
   | (refine Post.round (k+1) ⟨by omega,fun j y hj hy=>?_⟩ (by omega) (by (exact Sub.au)) (by (exact Ents.au))
      rcases Nat.lt_or_ge j k with h1|h1
      ·exact hf j y h1 hy
      ·rw [show j=k from (by omega),hp] at hy;cases hy;simp [isWrong];omega)
 ·(repeat' first|(refine Ka ?_;first|refine Kb ?_|(refine Kc ?_;intro _))|refine Kd ?_|refine Kh ?_)
  (refine Post.ra ?_)
  have:wrongF pts.length fcs=none:=find_none fun j y hj=>hf j y (by have:=(List.getElem?_eq_some_iff.1 hj).1;omega) hj
  rw [this];exact ⟨_,⟨rfl,rfl⟩,by (exact Ents.au)⟩
end Go.Proofs.YtkcnpgmgmgepoaaGreatDoor
namespace Go.Proofs.YtkcnpgmgmgepoaaGreatDoor
open Go Go.Sx
variable {w0:World} {As:List Ent} {pv fv:Value} {pts fcs:List V3}
theorem flat_ok {mv:Value} [RdIn As fv V3 cV3 fcs] [RdIn As pv V3 cV3 pts] (hl:fcs.length≤1000000000) (hfar:∀ p∈pts,p.in 200000) (hw:∀ f∈fcs,isWrong pts.length f=false) :
  CallsS Tryz.prog w0 257 [.agg #[pv,fv,mv]] As fun v Bs=>v=found (flatF pts fcs)∧Bs=As:=by
 refine CallsS.of_tri Tryz.func257 rfl Tryz.ntmps257 rfl ?_
 (repeat' first|(refine Ka ?_;first|refine Kb ?_|(refine Kc ?_;intro _))|refine Kd ?_|refine Kh ?_)
 rename_i b1
 refine Tri.loop (ι:=Nat) (fun k=>k≤fcs.length∧∀ (j:Nat) (y:V3),j < k→fcs[j]?=some y→isFlat pts y=false) (fun k=>fcs.length - k)
  (fun k=>[(1,.pointer (some ⟨b1,0,none⟩)),(11,fv),(12,.int .i64 fcs.length),(13,.int .i64 k)]) (fun _=>.cl b1 [pv,fv,mv] 230::As) 0 ⟨by omega,fun _ _ h=>by omega⟩ (by (exact Sub.au)) (by (exact Ents.au)) ?_
 intro k ⟨hk,hf⟩
 (repeat' first|(refine Ka ?_;first|refine Kb ?_|(refine Kc ?_;intro _))|refine Kd ?_|refine Kh ?_)
 ((show Tri _ _ _ (.cond _ _ _) _ _ _;first|refine Tri.condP rfl (fun hc=>?_) (fun hc=>?_)|refine Tri.condN rfl (fun hc=>?_) (fun hc=>?_)))
 ·obtain ⟨f,hp⟩:∃ p,fcs[k]?=some p:=⟨_,List.getElem?_eq_getElem (by omega)⟩
  have hv:=hw f (List.mem_of_getElem? hp)
  simp only [isWrong,Bool.or_eq_false_iff,decide_eq_false_iff_not] at hv
  obtain ⟨i,hi⟩:∃ i:Nat,f.x=(i:Int):=⟨f.x.toNat,by omega⟩
  obtain ⟨j,hj⟩:∃ i:Nat,f.y=(i:Int):=⟨f.y.toNat,by omega⟩
  obtain ⟨l,hl'⟩:∃ i:Nat,f.z=(i:Int):=⟨f.z.toNat,by omega⟩
  obtain ⟨fx,fy,fz⟩:=f
  simp only at hi hj hl' hv
  subst hi hj hl'
  obtain ⟨p,ep⟩:∃ p,pts[i]?=some p:=⟨_,List.getElem?_eq_getElem (by omega)⟩
  obtain ⟨q,eq⟩:∃ p,pts[j]?=some p:=⟨_,List.getElem?_eq_getElem (by omega)⟩
  obtain ⟨r,er⟩:∃ p,pts[l]?=some p:=⟨_,List.getElem?_eq_getElem (by omega)⟩
  (repeat' first|(refine Ka ?_;first|refine Kb ?_|(refine Kc ?_;intro _))|refine Kd ?_|refine Kh ?_)
  refine Tri.mid (fun e' As'=>∃ b6 b7 b8,e'=[(1,.pointer (some ⟨b1,0,none⟩)),(4,.int .i64 k),(6,.pointer (some ⟨b6,0,none⟩)),(7,.pointer (some ⟨b7,0,none⟩)),(8,.pointer (some ⟨b8,0,none⟩)),(11,fv),(12,.int .i64 fcs.length),(13,.int .i64 k)] ∧
   As'=.cl b6 [.int .i64 p.x,.int .i64 p.y,.int .i64 p.z] 32::.cl b7 [.int .i64 q.x,.int .i64 q.y,.int .i64 q.z] 32::.cl b8 [.int .i64 r.x,.int .i64 r.y,.int .i64 r.z] 32::.cl b1 [pv,fv,mv] 230::As) ?_ ?_
  ·refine Tri.draw (.take 0 (.take 1 (.take 2 (.take 3 (.take 4 (.take 5 (.take 6 (.take 7 (.take 8 (.take 9 (.take 10 (.take 11 (.take 12 (.take 13 (.take 14 (.take 15 (.take 16 (.take 17 (.take 18 (.take 19 (.take 20 (.all [(21,.all [(22,.all [(23,.all [(24,.all [(25,.all [(26,.done)])])])]),(23,.all [(22,.all [(24,.all [(25,.all [(26,.done)])])])])]),(22,.all [(21,.all [(23,.all [(24,.all [(25,.all [(26,.done)])])])]),(23,.all [(21,.all [(24,.all [(25,.all [(26,.done)])])])])]),(23,.all [(21,.all [(22,.all [(24,.all [(25,.all [(26,.done)])])])]),(22,.all [(21,.all [(24,.all [(25,.all [(26,.done)])])])])])])))))))))))))))))))))) rfl (by kernel_rfl) ?_
   (repeat' first|(refine Ka ?_;first|refine Kb ?_|(refine Kc ?_;intro _))|refine Kd ?_|(refine Ki ?_;refine Kj ?_)|exact Kk|refine Kl ?_ ?_|(refine Km ?_;first|refine Kn ?_|(refine Ko ?_;intro _))|(refine Kp ?_;first|refine Kq ?_|refine Kr ?_)|refine Kh ?_)
   all_goals exact Post.cut _ _ ⟨_,_,_,rfl,rfl⟩ (by (exact Sub.au)) (by (exact Ents.au))
  ·rintro e' As' ⟨b6,b7,b8,rfl,rfl⟩
   (repeat' first|(refine Ka ?_;first|refine Kb ?_|(refine Kc ?_;intro _))|refine Kd ?_|refine Kh ?_)
   refine Tri.draw (.take 0 (.take 1 (.take 3 (.take 4 (.take 7 (.all [(2,.all [(5,.all [(6,.take 8 (.done))])])])))))) rfl (by kernel_rfl) ?_
   (repeat' first|(refine Ka ?_;first|refine Kb ?_|(refine Kc ?_;intro _))|refine Kd ?_|(refine Ki ?_;refine Kj ?_)|exact Kk|refine Kl ?_ ?_|(refine Km ?_;first|refine Kn ?_|(refine Ko ?_;intro _))|(refine Kp ?_;first|refine Kq ?_|refine Kr ?_)|refine Kh ?_)
   refine T1.call rfl rfl rfl rfl (less_ok (hfar q (List.mem_of_getElem? eq)) (hfar p (List.mem_of_getElem? ep)) (by decide)) ?_
   rintro v Bs ⟨rfl,rfl⟩
   (repeat' first|(refine Ka ?_;first|refine Kb ?_|(refine Kc ?_;intro _))|refine Kd ?_|(refine Ki ?_;refine Kj ?_)|exact Kk|refine Kl ?_ ?_|(refine Km ?_;first|refine Kn ?_|(refine Ko ?_;intro _))|(refine Kp ?_;first|refine Kq ?_|refine Kr ?_)|refine Kh ?_)
   refine T1.call rfl rfl rfl rfl (less_ok (hfar r (List.mem_of_getElem? er)) (hfar p (List.mem_of_getElem? ep)) (by decide)) ?_
   rintro v Bs ⟨rfl,rfl⟩
   (repeat' first|(refine Ka ?_;first|refine Kb ?_|(refine Kc ?_;intro _))|refine Kd ?_|(refine Ki ?_;refine Kj ?_)|exact Kk|refine Kl ?_ ?_|(refine Km ?_;first|refine Kn ?_|(refine Ko ?_;intro _))|(refine Kp ?_;first|refine Kq ?_|refine Kr ?_)|refine Kh ?_)
   refine T1.call rfl rfl rfl rfl (cross_ok (sub_in (hfar q (List.mem_of_getElem? eq)) (hfar p (List.mem_of_getElem? ep))) (sub_in (hfar r (List.mem_of_getElem? er)) (hfar p (List.mem_of_getElem? ep))) (by decide) (by decide) (by decide)) ?_
   rintro v Bs ⟨rfl,rfl⟩
   have hn:normal pts ⟨(i:Int),(j:Int),(l:Int)⟩=(q.sub p).cross (r.sub p):=by simp [normal,ptAt,ep,eq,er]
   (repeat' first|(refine Ka ?_;first|refine Kb ?_|(refine Kc ?_;intro _))|refine Kd ?_|(refine Ki ?_;refine Kj ?_)|exact Kk|refine Kl ?_ ?_|(refine Km ?_;first|refine Kn ?_|(refine Ko ?_;intro _))|(refine Kp ?_;first|refine Kq ?_|refine Kr ?_)|refine Kh ?_)
   ((show Tri _ _ _ (.cond _ _ _) _ _ _;first|refine Tri.condP rfl (fun hc=>?_) (fun hc=>?_)|refine Tri.condN rfl (fun hc=>?_) (fun hc=>?_)))
   ·(repeat' first|(refine Ka ?_;first|refine Kb ?_|(refine Kc ?_;intro _))|refine Kd ?_|(refine Ki ?_;refine Kj ?_)|exact Kk|refine Kl ?_ ?_|(refine Km ?_;first|refine Kn ?_|(refine Ko ?_;intro _))|(refine Kp ?_;first|refine Kq ?_|refine Kr ?_)|refine Kh ?_)
    (refine Post.ra ?_)
    have hc':(q.sub p).cross (r.sub p)=V3.zero:=hc
    rw [flatF,find_some hp (by simp [isFlat,hn,hc']) hf];exact ⟨_,⟨rfl,rfl⟩,by (exact Ents.au)⟩
   ·(repeat' first|(refine Ka ?_;first|refine Kb ?_|(refine Kc ?_;intro _))|refine Kd ?_|(refine Ki ?_;refine Kj ?_)|exact Kk|refine Kl ?_ ?_|(refine Km ?_;first|refine Kn ?_|(refine Ko ?_;intro _))|(refine Kp ?_;first|refine Kq ?_|refine Kr ?_)|refine Kh ?_)
    have hc':(q.sub p).cross (r.sub p)≠V3.zero:=hc
    refine Post.round (k+1) ⟨by omega,fun j' y hj hy=>?_⟩ (by omega) (by (exact Sub.au)) (by (exact Ents.au))
    rcases Nat.lt_or_ge j' k with h1|h1
    ·exact hf j' y h1 hy
    ·rw [show j'=k from (by omega),hp] at hy;cases hy;simp [isFlat,hn,hc']
 ·(repeat' first|(refine Ka ?_;first|refine Kb ?_|(refine Kc ?_;intro _))|refine Kd ?_|refine Kh ?_)
  (refine Post.ra ?_)
  have:flatF pts fcs=none:=find_none fun j y hj=>hf j y (by have:=(List.getElem?_eq_some_iff.1 hj).1;omega) hj
  rw [this];exact ⟨_,⟨rfl,rfl⟩,by (exact Ents.au)⟩
end Go.Proofs.YtkcnpgmgmgepoaaGreatDoor
namespace Go.Proofs.YtkcnpgmgmgepoaaGreatDoor
open Go Go.Sx
variable {w0:World} {As:List Ent} {pv fv mv:Value} {pts fcs:List V3}
theorem edgeOpp_ok {u:Edg}:CallsS Tryz.prog w0 326 [cE u] As fun v Bs=>v=cE u.swap∧Bs=As:=by
 refine CallsS.of_tri Tryz.func326 rfl Tryz.ntmps326 rfl ?_
 (repeat' first|(refine Ka ?_;first|refine Kb ?_|(refine Kc ?_;intro _))|refine Kd ?_|refine Kh ?_)
 (refine Post.ra ?_)
 exact ⟨_,⟨rfl,rfl⟩,by (exact Ents.au)⟩
theorem edges_ok:CallsS Tryz.prog w0 157 [.agg #[pv,fv,mv]] As fun v Bs=>∃ b,v=.func (.func 254) #[] #[.pointer (some ⟨b,0,none⟩)]∧Bs=.cl b [pv,fv,mv] 230::As:=by
 refine CallsS.of_tri Tryz.func157 rfl Tryz.ntmps157 rfl ?_
 (repeat' first|(refine Ka ?_;first|refine Kb ?_|(refine Kc ?_;intro _))|refine Kd ?_|refine Kh ?_)
 (refine Post.ra ?_)
 exact ⟨_,⟨_,rfl,rfl⟩,by (exact Ents.au)⟩
theorem edges1_ok {l b:Nat} {L:Loop} {Y:Nat→List Ent} {I:Nat→Prop} {R:Nat→List Ent→Prop} [RdIn As fv V3 cV3 fcs] (hl:fcs.length≤1000000000) (hL:L.params.size=2) (h0:I 0)
  (hy:∀ p,p < 3 * fcs.length→I p→∀ F,YieldS Tryz.prog w0 l L [.int .i64 (p / 3:Nat),cE (edgeAt fcs p)] (.ob l (.loop L)::(Y p++F)) fun v Bs=>(v=.bool true∧I (p+1)∧Bs=.ob l (.loop L)::(Y (p+1)++F))∨(v=.bool false∧∃ Z,R p Z∧Bs=Z++F)) :
  CallsS Tryz.prog w0 254 [.func (.yield l) #[] #[],.pointer (some ⟨b,0,none⟩)] (.ob l (.loop L)::(Y 0++(.cl b [pv,fv,mv] 230::As)))
   fun _ Bs=>(I (3 * fcs.length)∧Bs=.ob l (.loop L)::(Y (3 * fcs.length)++(.cl b [pv,fv,mv] 230::As)))∨∃ p Z,p < 3 * fcs.length∧R p Z∧Bs=Z++(.cl b [pv,fv,mv] 230::As):=by
 refine CallsS.ents (Ents.perm (List.Perm.cons _ (List.perm_append_comm (l₁:=Y 0) (l₂:=.cl b [pv,fv,mv] 230::As)))) ?_
 refine CallsS.of_tri Tryz.func254 rfl Tryz.ntmps254 rfl ?_
 show Tri _ _ _ _ _ (.ob l (.loop L)::.cl b [pv,fv,mv] 230::(As++Y 0)) _
 (repeat' first|(refine Ka ?_;first|refine Kb ?_|(refine Kc ?_;intro _))|refine Kd ?_|refine Kh ?_)
 refine Tri.loop (ι:=Nat) (fun k=>k≤fcs.length∧I (3 * k)) (fun k=>fcs.length - k)
  (fun k=>[(0,.func (.yield l) #[] #[]),(8,fv),(9,.int .i64 fcs.length),(10,.int .i64 k)]) (fun k=>.ob l (.loop L)::.cl b [pv,fv,mv] 230::(As++Y (3 * k))) 0 ⟨by omega,h0⟩ (by (exact Sub.au)) (by (exact Ents.au)) ?_
 intro k ⟨hk,hI⟩
 (repeat' first|(refine Ka ?_;first|refine Kb ?_|(refine Kc ?_;intro _))|refine Kd ?_|refine Kh ?_)
 ((show Tri _ _ _ (.cond _ _ _) _ _ _;first|refine Tri.condP rfl (fun hc=>?_) (fun hc=>?_)|refine Tri.condN rfl (fun hc=>?_) (fun hc=>?_)))
 ·obtain ⟨f,hp⟩:∃ p,fcs[k]?=some p:=⟨_,List.getElem?_eq_getElem (by omega)⟩
  have hyk:∀ (j:Nat) (u:Edg),j < 3→edgeAt fcs (3 * k+j)=u→I (3 * k+j)→∀ bf cs T,YieldS Tryz.prog w0 l L [.int .i64 k,cE u] (.cl bf cs T::.ob l (.loop L)::.cl b [pv,fv,mv] 230::(As++Y (3 * k+j)))
        fun v Bs=>(v=.bool true∧I (3 * k+j+1)∧Bs=.cl bf cs T::.ob l (.loop L)::.cl b [pv,fv,mv] 230::(As++Y (3 * k+j+1)))∨(v=.bool false∧∃ Z,R (3 * k+j) Z∧Bs=.cl bf cs T::(Z++(.cl b [pv,fv,mv] 230::As))):=by
   intro j u hj hu hIj bf cs T
   have h1:=hy (3 * k+j) (by omega) hIj (.cl bf cs T::.cl b [pv,fv,mv] 230::As)
   rw [hu,show (3 * k+j) / 3=k from by omega] at h1
   have pm:∀ X:List Ent,(Ent.cl bf cs T::.ob l (.loop L)::.cl b [pv,fv,mv] 230::(As++X)).Perm (.ob l (.loop L)::(X++(.cl bf cs T::.cl b [pv,fv,mv] 230::As))):=fun X =>
        (List.Perm.swap _ _ _).trans (List.Perm.cons _ (show ((Ent.cl bf cs T::Ent.cl b [pv,fv,mv] 230::As)++X).Perm (X++(Ent.cl bf cs T::Ent.cl b [pv,fv,mv] 230::As)) from List.perm_append_comm))
   refine YieldS.conv h1 (Ents.perm (pm _)) ?_
   rintro v A (⟨rfl,g1,rfl⟩|⟨rfl,Z,g1,rfl⟩)
   ·exact ⟨_,.inl ⟨rfl,g1,rfl⟩,Ents.perm (pm _).symm⟩
   ·refine ⟨_,.inr ⟨rfl,Z,g1,rfl⟩,?_⟩
    exact Ents.perm List.perm_middle
  (repeat' first|(refine Ka ?_;first|refine Kb ?_|(refine Kc ?_;intro _))|refine Kd ?_|refine Kh ?_)
  refine Tri.unroll 4 ?_
  (repeat' first|(refine Ka ?_;first|refine Kb ?_|(refine Kc ?_;intro _))|refine Kd ?_|refine Kh ?_)
  rename_i bf
  refine Tri.drawR (Rs:=[.cl bf [.int .i64 f.x,.int .i64 f.y,.int .i64 f.z] 32]) (.take 0 (.take 1 (.take 2 (.take 3 (.take 4 (.take 5 (.take 6 (.take 7 (.take 8 (.take 9 (.take 10 (.all [(11,.take 12 (.done))])))))))))))) rfl (by kernel_rfl) (by (exact Ents.au)) ?_
  (repeat' first|(refine Ka ?_;first|refine Kb ?_|(refine Kc ?_;intro _))|refine Kd ?_|(refine Ki ?_;refine Kj ?_)|exact Kk|refine Kl ?_ ?_|(refine Km ?_;first|refine Kn ?_|(refine Ko ?_;intro _))|(refine Kp ?_;first|refine Kq ?_|refine Kr ?_)|refine Kh ?_)
  refine T1.yield rfl rfl rfl rfl rfl hL.symm (hyk 0 (f.x,f.y) (by omega) (edgeAt0 hp) hI _ _ _) ?_
  rintro v Bs (⟨rfl,hI1,rfl⟩|⟨rfl,Z,hZ,rfl⟩)
  ·(repeat' first|(refine Ka ?_;first|refine Kb ?_|(refine Kc ?_;intro _))|refine Kd ?_|(refine Ki ?_;refine Kj ?_)|exact Kk|refine Kl ?_ ?_|(refine Km ?_;first|refine Kn ?_|(refine Ko ?_;intro _))|(refine Kp ?_;first|refine Kq ?_|refine Kr ?_)|refine Kh ?_)
   refine Tri.drawR (Rs:=[.cl bf [.int .i64 f.x,.int .i64 f.y,.int .i64 f.z] 32]) (.take 0 (.take 1 (.take 2 (.take 3 (.take 4 (.take 5 (.take 6 (.take 7 (.take 8 (.take 9 (.take 10 (.all [(11,.take 12 (.done))])))))))))))) rfl (by kernel_rfl) (by (exact Ents.au)) ?_
   (repeat' first|(refine Ka ?_;first|refine Kb ?_|(refine Kc ?_;intro _))|refine Kd ?_|(refine Ki ?_;refine Kj ?_)|exact Kk|refine Kl ?_ ?_|(refine Km ?_;first|refine Kn ?_|(refine Ko ?_;intro _))|(refine Kp ?_;first|refine Kq ?_|refine Kr ?_)|refine Kh ?_)
   refine T1.yield rfl rfl rfl rfl rfl hL.symm (hyk 1 (f.y,f.z) (by omega) (edgeAt1 hp) hI1 _ _ _) ?_
   rintro v Bs (⟨rfl,hI2,rfl⟩|⟨rfl,Z,hZ,rfl⟩)
   ·(repeat' first|(refine Ka ?_;first|refine Kb ?_|(refine Kc ?_;intro _))|refine Kd ?_|(refine Ki ?_;refine Kj ?_)|exact Kk|refine Kl ?_ ?_|(refine Km ?_;first|refine Kn ?_|(refine Ko ?_;intro _))|(refine Kp ?_;first|refine Kq ?_|refine Kr ?_)|refine Kh ?_)
    refine Tri.drawR (Rs:=[.cl bf [.int .i64 f.x,.int .i64 f.y,.int .i64 f.z] 32]) (.take 0 (.take 1 (.take 2 (.take 3 (.take 4 (.take 5 (.take 6 (.take 7 (.take 8 (.take 9 (.take 10 (.all [(11,.take 12 (.done))])))))))))))) rfl (by kernel_rfl) (by (exact Ents.au)) ?_
    (repeat' first|(refine Ka ?_;first|refine Kb ?_|(refine Kc ?_;intro _))|refine Kd ?_|(refine Ki ?_;refine Kj ?_)|exact Kk|refine Kl ?_ ?_|(refine Km ?_;first|refine Kn ?_|(refine Ko ?_;intro _))|(refine Kp ?_;first|refine Kq ?_|refine Kr ?_)|refine Kh ?_)
    refine T1.yield rfl rfl rfl rfl rfl hL.symm (hyk 2 (f.z,f.x) (by omega) (edgeAt2 hp) hI2 _ _ _) ?_
    rintro v Bs (⟨rfl,hI3,rfl⟩|⟨rfl,Z,hZ,rfl⟩)
    ·(repeat' first|(refine Ka ?_;first|refine Kb ?_|(refine Kc ?_;intro _))|refine Kd ?_|(refine Ki ?_;refine Kj ?_)|exact Kk|refine Kl ?_ ?_|(refine Km ?_;first|refine Kn ?_|(refine Ko ?_;intro _))|(refine Kp ?_;first|refine Kq ?_|refine Kr ?_)|refine Kh ?_)
     refine Post.round (k+1) ⟨by omega,by rw [show 3 * (k+1)=3 * k+2+1 from by omega];exact hI3⟩ (by omega) (by (exact Sub.au)) ?_
     rw [show 3 * (k+1)=3 * k+2+1 from by omega]
     (exact Ents.au)
    ·(repeat' first|(refine Ka ?_;first|refine Kb ?_|(refine Kc ?_;intro _))|refine Kd ?_|(refine Ki ?_;refine Kj ?_)|exact Kk|refine Kl ?_ ?_|(refine Km ?_;first|refine Kn ?_|(refine Ko ?_;intro _))|(refine Kp ?_;first|refine Kq ?_|refine Kr ?_)|refine Kh ?_)
     (refine Post.ra ?_)
     exact ⟨_,.inr ⟨_,_,by omega,hZ,rfl⟩,Ents.drop1⟩
   ·(repeat' first|(refine Ka ?_;first|refine Kb ?_|(refine Kc ?_;intro _))|refine Kd ?_|(refine Ki ?_;refine Kj ?_)|exact Kk|refine Kl ?_ ?_|(refine Km ?_;first|refine Kn ?_|(refine Ko ?_;intro _))|(refine Kp ?_;first|refine Kq ?_|refine Kr ?_)|refine Kh ?_)
    (refine Post.ra ?_)
    exact ⟨_,.inr ⟨_,_,by omega,hZ,rfl⟩,Ents.drop1⟩
  ·(repeat' first|(refine Ka ?_;first|refine Kb ?_|(refine Kc ?_;intro _))|refine Kd ?_|(refine Ki ?_;refine Kj ?_)|exact Kk|refine Kl ?_ ?_|(refine Km ?_;first|refine Kn ?_|(refine Ko ?_;intro _))|(refine Kp ?_;first|refine Kq ?_|refine Kr ?_)|refine Kh ?_)
   (refine Post.ra ?_)
   exact ⟨_,.inr ⟨_,_,by omega,hZ,rfl⟩,Ents.drop1⟩
 ·(repeat' first|(refine Ka ?_;first|refine Kb ?_|(refine Kc ?_;intro _))|refine Kd ?_|refine Kh ?_)
  (refine Post.ra ?_)
  have:k=fcs.length:=by omega
  subst this
  refine ⟨_,.inl ⟨hI,rfl⟩,Ents.perm (List.Perm.cons _ (List.perm_append_comm (l₁:=.cl b [pv,fv,mv] 230::As) (l₂:=Y (3 * fcs.length))))⟩
end Go.Proofs.YtkcnpgmgmgepoaaGreatDoor

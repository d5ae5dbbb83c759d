/- Walks: small functions of meshes. -/
import Derived.Test.YtbfgldlfciimiaaGreatDoorTy
import Derived.Test.YtbfgldlfciimiaaGreatDoorPl
set_option maxHeartbeats 1000000
namespace Go.Proofs.YtbfgldlfciimiaaGreatDoor
open Go Go.Sx
instance:ElC Tryz.prog 39 V3 cV3 ⟨0,0,0⟩ 24:=⟨by obtain ⟨i,h1,h2,h3,h4⟩:=(inferInstance:TI Tryz.prog 39 _ _ _).info;exact ⟨i,_,h1,h2,h3,h4,rfl⟩,by decide⟩
variable {w0:World} {As:List Ent} {pv fv:Value} {pts fcs:List V3}

instance:NG Tryz.prog 39:=⟨by kernel_rfl⟩
theorem Z3e {p q:V3} {m n:Int} (hp:p.in m) (hq:q.in n) (hm:m+n≤9223372036854775807) :
  CQ Tryz.prog w0 133 [p.val,q.val] As ((p.sub q).val):=by
 obtain ⟨h1,h2,h3,h4,h5,h6⟩:=hp
 obtain ⟨k1,k2,k3,k4,k5,k6⟩:=hq
 refine Zab Tryz.func133 rfl Tryz.ntmps133 rfl ?_
 repeat' first|refine Kz ?_|intro _
 exact Kv
theorem Zyl {p q:V3} {m n:Int} (hp:p.in m) (hq:q.in n) (g0:0≤m) (g1:0≤n) (hm:2 * (m * n)≤9223372036854775807) :
  CQ Tryz.prog w0 61 [p.val,q.val] As ((p.cross q).val):=by
 obtain ⟨h1,h2,h3,h4,h5,h6⟩:=hp
 obtain ⟨k1,k2,k3,k4,k5,k6⟩:=hq
 have a1:=Za5 g0 g1 h3 h4 k5 k6
 have a2:=Za5 g0 g1 h5 h6 k3 k4
 have a3:=Za5 g0 g1 h5 h6 k1 k2
 have a4:=Za5 g0 g1 h1 h2 k5 k6
 have a5:=Za5 g0 g1 h1 h2 k3 k4
 have a6:=Za5 g0 g1 h3 h4 k1 k2
 refine Zab Tryz.func61 rfl Tryz.ntmps61 rfl ?_
 repeat' first|refine Kz ?_|intro _
 exact Kv
theorem Yel {mv:Value} [RdIn As pv V3 cV3 pts] (hl:pts.length≤1000000000) :
  CQ Tryz.prog w0 90 [.agg #[pv,fv,mv]] As (found (farF pts)):=by
 refine Zab Tryz.func90 rfl Tryz.ntmps90 rfl ?_
 repeat' first|refine Kz ?_|intro _
 rename_i b1
 refine Tri.loop (ι:=Nat) (fun k=>k≤pts.length∧∀ (j:Nat) (y:V3),j < k→pts[j]?=some y→isFar y=false) (fun k=>pts.length - k)
  (fun k=>[(1,.pointer (some ⟨b1,0,none⟩)),(10,pv),(11,.int .i64 pts.length),(12,.int .i64 k)]) (fun _=>.cl b1 [pv,fv,mv] 166::As) 0 ⟨by omega,fun _ _ h=>by omega⟩ Zad Zaa ?_
 intro k ⟨hk,hf⟩
 repeat' first|refine Kz ?_|intro _
 (refine Kx (fun hc=>?_) fun hc=>?_)
 ·obtain ⟨p,hp⟩:∃ p,pts[k]?=some p:=⟨_,List.getElem?_eq_getElem (by omega)⟩
  repeat' first|refine Kz ?_|intro _
  refine Zao 4 ?_
  (repeat' (first|((show TL _ _ _ _ (_::_) _ _ _;first|refine Ze1 ?_|refine Zey ?_|(refine Zcn ?_;intro _)|(refine Zdd ?_;first|rintro _ _ ⟨rfl,rfl⟩|rintro _ _ rfl)|refine Zbp ?_|refine Zbb ?_|refine Ze0 ?_|fail))|(refine Stp.h ?_)|((show Tri _ _ _ (.cond _ _ _) _ _ _;first|refine Zbn ?_|refine Zbo ?_|refine Zat ?_|refine Zau ?_|refine Zap ?_|refine Zaq ?_|fail))|(first|refine Zbg rfl rfl (fun hgs=>?_) (fun hgs=>?_)|refine Za7 rfl rfl (fun hgs=>?_) (fun hgs=>?_)|refine Zbf rfl rfl rfl (fun hgs=>?_) (fun hgs=>?_)|refine Za6 rfl rfl rfl (fun hgs=>?_) (fun hgs=>?_))|(refine Kx (fun hc=>?_) fun hc=>?_)))
  all_goals first
   | ((refine Zac ?_);rw [farF,Zft hp (by simp [isFar];omega) hf];exact ⟨_,⟨rfl,rfl⟩,Zaa⟩)
   | (refine Post.round (k+1) ⟨by omega,fun j y hj hy=>?_⟩ (by omega) Zad Zaa
      rcases Nat.lt_or_ge j k with h1|h1
      ·exact hf j y h1 hy
      ·rw [show j=k from (by omega),hp] at hy;cases hy;simp [isFar];omega)
 ·repeat' first|refine Kz ?_|intro _
  (refine Zac ?_)
  have:farF pts=none:=Zg4 fun j y hj=>hf j y (by have:=(List.getElem?_eq_some_iff.1 hj).1;omega) hj
  rw [this];exact ⟨_,⟨rfl,rfl⟩,Zaa⟩
theorem Z51 {mv:Value} [RdIn As fv V3 cV3 fcs] [RdIn As pv V3 cV3 pts] (hl:fcs.length≤1000000000) :
  CQ Tryz.prog w0 91 [.agg #[pv,fv,mv]] As (found (wrongF pts.length fcs)):=by
 refine Zab Tryz.func91 rfl Tryz.ntmps91 rfl ?_
 repeat' first|refine Kz ?_|intro _
 rename_i b1
 refine Tri.loop (ι:=Nat) (fun k=>k≤fcs.length∧∀ (j:Nat) (y:V3),j < k→fcs[j]?=some y→isWrong pts.length y=false) (fun k=>fcs.length - k)
  (fun k=>[(1,.pointer (some ⟨b1,0,none⟩)),(10,fv),(11,.int .i64 fcs.length),(12,.int .i64 k)]) (fun _=>.cl b1 [pv,fv,mv] 166::As) 0 ⟨by omega,fun _ _ h=>by omega⟩ Zad Zaa ?_
 intro k ⟨hk,hf⟩
 repeat' first|refine Kz ?_|intro _
 (refine Kx (fun hc=>?_) fun hc=>?_)
 ·obtain ⟨p,hp⟩:∃ p,fcs[k]?=some p:=⟨_,List.getElem?_eq_getElem (by omega)⟩
  repeat' first|refine Kz ?_|intro _
  refine Zao 4 ?_
  (repeat' (first|((show TL _ _ _ _ (_::_) _ _ _;first|refine Ze1 ?_|refine Zey ?_|(refine Zcn ?_;intro _)|(refine Zdd ?_;first|rintro _ _ ⟨rfl,rfl⟩|rintro _ _ rfl)|refine Zbp ?_|refine Zbb ?_|refine Ze0 ?_|fail))|(refine Stp.h ?_)|((show Tri _ _ _ (.cond _ _ _) _ _ _;first|refine Zbn ?_|refine Zbo ?_|refine Zat ?_|refine Zau ?_|refine Zap ?_|refine Zaq ?_|fail))|(first|refine Zbg rfl rfl (fun hgs=>?_) (fun hgs=>?_)|refine Za7 rfl rfl (fun hgs=>?_) (fun hgs=>?_)|refine Zbf rfl rfl rfl (fun hgs=>?_) (fun hgs=>?_)|refine Za6 rfl rfl rfl (fun hgs=>?_) (fun hgs=>?_))|(refine Kx (fun hc=>?_) fun hc=>?_)))
  all_goals first
   | ((refine Zac ?_);rw [wrongF,Zft hp (by simp [isWrong];omega) hf];exact ⟨_,⟨rfl,rfl⟩,Zaa⟩)
   | (refine Post.round (k+1) ⟨by omega,fun j y hj hy=>?_⟩ (by omega) Zad Zaa
      rcases Nat.lt_or_ge j k with h1|h1
      ·exact hf j y h1 hy
      ·rw [show j=k from (by omega),hp] at hy;cases hy;simp [isWrong];omega)
 ·repeat' first|refine Kz ?_|intro _
  (refine Zac ?_)
  have:wrongF pts.length fcs=none:=Zg4 fun j y hj=>hf j y (by have:=(List.getElem?_eq_some_iff.1 hj).1;omega) hj
  rw [this];exact ⟨_,⟨rfl,rfl⟩,Zaa⟩
end Go.Proofs.YtbfgldlfciimiaaGreatDoor
namespace Go.Proofs.YtbfgldlfciimiaaGreatDoor
open Go Go.Sx
variable {w0:World} {As:List Ent} {pv fv:Value} {pts fcs:List V3}
theorem Ybf {mv:Value} [RdIn As fv V3 cV3 fcs] [RdIn As pv V3 cV3 pts] (hl:fcs.length≤1000000000) (hfar:∀ p∈pts,p.in 200000) (hw:∀ f∈fcs,isWrong pts.length f=false) :
  CQ Tryz.prog w0 92 [.agg #[pv,fv,mv]] As (found (flatF pts fcs)):=by
 refine Zab Tryz.func92 rfl Tryz.ntmps92 rfl ?_
 repeat' first|refine Kz ?_|intro _
 rename_i b1
 refine Tri.loop (ι:=Nat) (fun k=>k≤fcs.length∧∀ (j:Nat) (y:V3),j < k→fcs[j]?=some y→isFlat pts y=false) (fun k=>fcs.length - k)
  (fun k=>[(1,.pointer (some ⟨b1,0,none⟩)),(11,fv),(12,.int .i64 fcs.length),(13,.int .i64 k)]) (fun _=>.cl b1 [pv,fv,mv] 166::As) 0 ⟨by omega,fun _ _ h=>by omega⟩ Zad Zaa ?_
 intro k ⟨hk,hf⟩
 repeat' first|refine Kz ?_|intro _
 (refine Kx (fun hc=>?_) fun hc=>?_)
 ·obtain ⟨f,hp⟩:∃ p,fcs[k]?=some p:=⟨_,List.getElem?_eq_getElem (by omega)⟩
  have hv:=hw f (List.mem_of_getElem? hp)
  simp only [isWrong,Bool.or_eq_false_iff,decide_eq_false_iff_not] at hv
  obtain ⟨i,hi⟩:∃ i:Nat,f.x=(i:Int):=⟨f.x.toNat,by omega⟩
  obtain ⟨j,hj⟩:∃ i:Nat,f.y=(i:Int):=⟨f.y.toNat,by omega⟩
  obtain ⟨l,hl'⟩:∃ i:Nat,f.z=(i:Int):=⟨f.z.toNat,by omega⟩
  obtain ⟨fx,fy,fz⟩:=f
  simp only at hi hj hl' hv
  subst hi hj hl'
  obtain ⟨p,ep⟩:∃ p,pts[i]?=some p:=⟨_,List.getElem?_eq_getElem (by omega)⟩
  obtain ⟨q,eq⟩:∃ p,pts[j]?=some p:=⟨_,List.getElem?_eq_getElem (by omega)⟩
  obtain ⟨r,er⟩:∃ p,pts[l]?=some p:=⟨_,List.getElem?_eq_getElem (by omega)⟩
  repeat' first|refine Kz ?_|intro _
  refine Tri.mid (fun e' As'=>∃ b6 b7 b8,e'=[(1,.pointer (some ⟨b1,0,none⟩)),(4,.int .i64 k),(6,.pointer (some ⟨b6,0,none⟩)),(7,.pointer (some ⟨b7,0,none⟩)),(8,.pointer (some ⟨b8,0,none⟩)),(11,fv),(12,.int .i64 fcs.length),(13,.int .i64 k)] ∧
   As'=.cl b6 [.int .i64 p.x,.int .i64 p.y,.int .i64 p.z] 39::.cl b7 [.int .i64 q.x,.int .i64 q.y,.int .i64 q.z] 39::.cl b8 [.int .i64 r.x,.int .i64 r.y,.int .i64 r.z] 39::.cl b1 [pv,fv,mv] 166::As) ?_ ?_
  ·refine Zdc (.take 0 (.take 1 (.take 2 (.take 3 (.take 4 (.take 5 (.take 6 (.take 7 (.take 8 (.take 9 (.take 10 (.take 11 (.take 12 (.take 13 (.take 14 (.take 15 (.take 16 (.take 17 (.take 18 (.take 19 (.take 20 (.all [(21,.all [(22,.all [(23,.all [(24,.all [(25,.all [(26,.done)])])])]),(23,.all [(22,.all [(24,.all [(25,.all [(26,.done)])])])])]),(22,.all [(21,.all [(23,.all [(24,.all [(25,.all [(26,.done)])])])]),(23,.all [(21,.all [(24,.all [(25,.all [(26,.done)])])])])]),(23,.all [(21,.all [(22,.all [(24,.all [(25,.all [(26,.done)])])])]),(22,.all [(21,.all [(24,.all [(25,.all [(26,.done)])])])])])])))))))))))))))))))))) rfl (by kernel_rfl) ?_
   repeat' first|refine Kf ?_|intro _|constructor
   all_goals exact Post.cut _ _ ⟨_,_,_,rfl,rfl⟩ Zad Zaa
  ·rintro e' As' ⟨b6,b7,b8,rfl,rfl⟩
   repeat' first|refine Kz ?_|intro _
   refine Zdc (.take 0 (.take 1 (.take 3 (.take 4 (.take 7 (.all [(2,.all [(5,.all [(6,.take 8 (.done))])])])))))) rfl (by kernel_rfl) ?_
   repeat' first|refine Kf ?_|intro _|constructor
   refine T1.call rfl rfl rfl rfl (Z3e (hfar q (List.mem_of_getElem? eq)) (hfar p (List.mem_of_getElem? ep)) (by decide)) ?_
   rintro v Bs ⟨rfl,rfl⟩
   repeat' first|refine Kf ?_|intro _|constructor
   refine T1.call rfl rfl rfl rfl (Z3e (hfar r (List.mem_of_getElem? er)) (hfar p (List.mem_of_getElem? ep)) (by decide)) ?_
   rintro v Bs ⟨rfl,rfl⟩
   repeat' first|refine Kf ?_|intro _|constructor
   refine T1.call rfl rfl rfl rfl (Zyl (Zdy (hfar q (List.mem_of_getElem? eq)) (hfar p (List.mem_of_getElem? ep))) (Zdy (hfar r (List.mem_of_getElem? er)) (hfar p (List.mem_of_getElem? ep))) (by decide) (by decide) (by decide)) ?_
   rintro v Bs ⟨rfl,rfl⟩
   have hn:normal pts ⟨(i:Int),(j:Int),(l:Int)⟩=(q.sub p).cross (r.sub p):=by simp [normal,ptAt,ep,eq,er]
   repeat' first|refine Kf ?_|intro _|constructor
   (refine Kx (fun hc=>?_) fun hc=>?_)
   ·repeat' first|refine Kf ?_|intro _|constructor
    (refine Zac ?_)
    have hc':(q.sub p).cross (r.sub p)=V3.zero:=hc
    rw [flatF,Zft hp (by simp [isFlat,hn,hc']) hf];exact ⟨_,⟨rfl,rfl⟩,Zaa⟩
   ·repeat' first|refine Kf ?_|intro _|constructor
    have hc':(q.sub p).cross (r.sub p)≠V3.zero:=hc
    refine Post.round (k+1) ⟨by omega,fun j' y hj hy=>?_⟩ (by omega) Zad Zaa
    rcases Nat.lt_or_ge j' k with h1|h1
    ·exact hf j' y h1 hy
    ·rw [show j'=k from (by omega),hp] at hy;cases hy;simp [isFlat,hn,hc']
 ·repeat' first|refine Kz ?_|intro _
  (refine Zac ?_)
  have:flatF pts fcs=none:=Zg4 fun j y hj=>hf j y (by have:=(List.getElem?_eq_some_iff.1 hj).1;omega) hj
  rw [this];exact ⟨_,⟨rfl,rfl⟩,Zaa⟩
end Go.Proofs.YtbfgldlfciimiaaGreatDoor
namespace Go.Proofs.YtbfgldlfciimiaaGreatDoor
open Go Go.Sx
variable {w0:World} {As:List Ent} {pv fv mv:Value} {pts fcs:List V3}
theorem Zz6 {u:Edg}:CQ Tryz.prog w0 135 [cE u] As (cE u.swap):=by
 refine Zab Tryz.func135 rfl Tryz.ntmps135 rfl ?_
 repeat' first|refine Kz ?_|intro _
 exact Kv
theorem Zyb:CallsS Tryz.prog w0 134 [.agg #[pv,fv,mv]] As fun v Bs=>∃ b,v=.func (.func 175) #[] #[.pointer (some ⟨b,0,none⟩)]∧Bs=.cl b [pv,fv,mv] 166::As:=by
 refine Zab Tryz.func134 rfl Tryz.ntmps134 rfl ?_
 repeat' first|refine Kz ?_|intro _
 (refine Zac ?_)
 exact ⟨_,⟨_,rfl,rfl⟩,Zaa⟩
theorem Ztr {l b:Nat} {L:Loop} {Y:Nat→List Ent} {I:Nat→Prop} {R:Nat→List Ent→Prop} [RdIn As fv V3 cV3 fcs] (hl:fcs.length≤1000000000) (hL:L.params.size=2) (h0:I 0)
  (hy:∀ p,p < 3 * fcs.length→I p→∀ F,YieldS Tryz.prog w0 l L [.int .i64 (p / 3:Nat),cE (edgeAt fcs p)] (.ob l (.loop L)::(Y p++F)) fun v Bs=>(v=.bool true∧I (p+1)∧Bs=.ob l (.loop L)::(Y (p+1)++F))∨(v=.bool false∧∃ Z,R p Z∧Bs=Z++F)) :
  CallsS Tryz.prog w0 175 [.func (.yield l) #[] #[],.pointer (some ⟨b,0,none⟩)] (.ob l (.loop L)::(Y 0++(.cl b [pv,fv,mv] 166::As)))
   fun _ Bs=>(I (3 * fcs.length)∧Bs=.ob l (.loop L)::(Y (3 * fcs.length)++(.cl b [pv,fv,mv] 166::As)))∨∃ p Z,p < 3 * fcs.length∧R p Z∧Bs=Z++(.cl b [pv,fv,mv] 166::As):=by
 refine CallsS.ents (Ents.perm (List.Perm.cons _ (List.perm_append_comm (l₁:=Y 0) (l₂:=.cl b [pv,fv,mv] 166::As)))) ?_
 refine Zab Tryz.func175 rfl Tryz.ntmps175 rfl ?_
 show Tri _ _ _ _ _ (.ob l (.loop L)::.cl b [pv,fv,mv] 166::(As++Y 0)) _
 repeat' first|refine Kz ?_|intro _
 refine Tri.loop (ι:=Nat) (fun k=>k≤fcs.length∧I (3 * k)) (fun k=>fcs.length - k)
  (fun k=>[(0,.func (.yield l) #[] #[]),(8,fv),(9,.int .i64 fcs.length),(10,.int .i64 k)]) (fun k=>.ob l (.loop L)::.cl b [pv,fv,mv] 166::(As++Y (3 * k))) 0 ⟨by omega,h0⟩ Zad Zaa ?_
 intro k ⟨hk,hI⟩
 repeat' first|refine Kz ?_|intro _
 (refine Kx (fun hc=>?_) fun hc=>?_)
 ·obtain ⟨f,hp⟩:∃ p,fcs[k]?=some p:=⟨_,List.getElem?_eq_getElem (by omega)⟩
  have hyk:∀ (j:Nat) (u:Edg),j < 3→edgeAt fcs (3 * k+j)=u→I (3 * k+j)→∀ bf cs T,YieldS Tryz.prog w0 l L [.int .i64 k,cE u] (.cl bf cs T::.ob l (.loop L)::.cl b [pv,fv,mv] 166::(As++Y (3 * k+j)))
    fun v Bs=>(v=.bool true∧I (3 * k+j+1)∧Bs=.cl bf cs T::.ob l (.loop L)::.cl b [pv,fv,mv] 166::(As++Y (3 * k+j+1)))∨(v=.bool false∧∃ Z,R (3 * k+j) Z∧Bs=.cl bf cs T::(Z++(.cl b [pv,fv,mv] 166::As))):=by
   intro j u hj hu hIj bf cs T
   have h1:=hy (3 * k+j) (by omega) hIj (.cl bf cs T::.cl b [pv,fv,mv] 166::As)
   rw [hu,show (3 * k+j) / 3=k from by omega] at h1
   have pm:∀ X:List Ent,(Ent.cl bf cs T::.ob l (.loop L)::.cl b [pv,fv,mv] 166::(As++X)).Perm (.ob l (.loop L)::(X++(.cl bf cs T::.cl b [pv,fv,mv] 166::As))):=fun X =>
    (List.Perm.swap _ _ _).trans (List.Perm.cons _ (show ((Ent.cl bf cs T::Ent.cl b [pv,fv,mv] 166::As)++X).Perm (X++(Ent.cl bf cs T::Ent.cl b [pv,fv,mv] 166::As)) from List.perm_append_comm))
   refine Zng h1 (Ents.perm (pm _)) ?_
   rintro v A (⟨rfl,g1,rfl⟩|⟨rfl,Z,g1,rfl⟩)
   ·exact ⟨_,.inl ⟨rfl,g1,rfl⟩,Ents.perm (pm _).symm⟩
   ·refine ⟨_,.inr ⟨rfl,Z,g1,rfl⟩,?_⟩
    exact Ents.perm List.perm_middle
  repeat' first|refine Kz ?_|intro _
  refine Zao 4 ?_
  repeat' first|refine Kz ?_|intro _
  rename_i bf
  refine Zjp (Rs:=[.cl bf [.int .i64 f.x,.int .i64 f.y,.int .i64 f.z] 39]) (.take 0 (.take 1 (.take 2 (.take 3 (.take 4 (.take 5 (.take 6 (.take 7 (.take 8 (.take 9 (.take 10 (.all [(11,.take 12 (.done))])))))))))))) rfl (by kernel_rfl) Zaa ?_
  repeat' first|refine Kf ?_|intro _|constructor
  refine T1.yield rfl rfl rfl rfl rfl hL.symm (hyk 0 (f.x,f.y) (by omega) (Zm2 hp) hI _ _ _) ?_
  rintro v Bs (⟨rfl,hI1,rfl⟩|⟨rfl,Z,hZ,rfl⟩)
  ·repeat' first|refine Kf ?_|intro _|constructor
   refine Zjp (Rs:=[.cl bf [.int .i64 f.x,.int .i64 f.y,.int .i64 f.z] 39]) (.take 0 (.take 1 (.take 2 (.take 3 (.take 4 (.take 5 (.take 6 (.take 7 (.take 8 (.take 9 (.take 10 (.all [(11,.take 12 (.done))])))))))))))) rfl (by kernel_rfl) Zaa ?_
   repeat' first|refine Kf ?_|intro _|constructor
   refine T1.yield rfl rfl rfl rfl rfl hL.symm (hyk 1 (f.y,f.z) (by omega) (Zm1 hp) hI1 _ _ _) ?_
   rintro v Bs (⟨rfl,hI2,rfl⟩|⟨rfl,Z,hZ,rfl⟩)
   ·repeat' first|refine Kf ?_|intro _|constructor
    refine Zjp (Rs:=[.cl bf [.int .i64 f.x,.int .i64 f.y,.int .i64 f.z] 39]) (.take 0 (.take 1 (.take 2 (.take 3 (.take 4 (.take 5 (.take 6 (.take 7 (.take 8 (.take 9 (.take 10 (.all [(11,.take 12 (.done))])))))))))))) rfl (by kernel_rfl) Zaa ?_
    repeat' first|refine Kf ?_|intro _|constructor
    refine T1.yield rfl rfl rfl rfl rfl hL.symm (hyk 2 (f.z,f.x) (by omega) (Zm0 hp) hI2 _ _ _) ?_
    rintro v Bs (⟨rfl,hI3,rfl⟩|⟨rfl,Z,hZ,rfl⟩)
    ·repeat' first|refine Kf ?_|intro _|constructor
     refine Post.round (k+1) ⟨by omega,by rw [show 3 * (k+1)=3 * k+2+1 from by omega];exact hI3⟩ (by omega) Zad ?_
     rw [show 3 * (k+1)=3 * k+2+1 from by omega]
     (exact Zaa)
    ·repeat' first|refine Kf ?_|intro _|constructor
     (refine Zac ?_)
     exact ⟨_,.inr ⟨_,_,by omega,hZ,rfl⟩,Zb3⟩
   ·repeat' first|refine Kf ?_|intro _|constructor
    (refine Zac ?_)
    exact ⟨_,.inr ⟨_,_,by omega,hZ,rfl⟩,Zb3⟩
  ·repeat' first|refine Kf ?_|intro _|constructor
   (refine Zac ?_)
   exact ⟨_,.inr ⟨_,_,by omega,hZ,rfl⟩,Zb3⟩
 ·repeat' first|refine Kz ?_|intro _
  (refine Zac ?_)
  have:k=fcs.length:=by omega
  subst this
  refine ⟨_,.inl ⟨hI,rfl⟩,Ents.perm (List.Perm.cons _ (List.perm_append_comm (l₁:=.cl b [pv,fv,mv] 166::As) (l₂:=Y (3 * fcs.length))))⟩
end Go.Proofs.YtbfgldlfciimiaaGreatDoor

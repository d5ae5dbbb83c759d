/- Plain: the groups of a list. -/
import Derived.Test.YtciadfpomkdlnaaGreatDoorPp7
set_option maxHeartbeats 1000000
namespace Go.Proofs.YtciadfpomkdlnaaGreatDoor.Q
open Go Go.Sx
def selG (l:List PP) (d:List Int):List PP:=l.filter fun p=>decide (p.2.1=d)
def sumG (f:PP→Int) (l:List PP):Int:=(l.map f).sum
structure GInv (l:List PP) (T:List GP):Prop where
 nodup:(T.map (·.dev)).Nodup
 grp:∀ g∈T,(∃ p∈l,p.1=g.nm∧p.2.1=g.dev)∧1≤g.c∧g.c=(selG l g.dev).length∧g.x=sumG (·.2.2.1) (selG l g.dev)∧g.y=sumG (·.2.2.2.1) (selG l g.dev)∧g.z=sumG (·.2.2.2.2) (selG l g.dev)
 all:∀ p∈l,∃ g∈T,g.dev=p.2.1
 len:T.length≤l.length
 full:T.length=l.length→T.map GP.out=l
theorem Zwu {d:List Int} {T:List GP} (h:findG d T=none):∀ g∈T,g.dev≠d:=by
 induction T with
 | nil=>intro g hg;cases hg
 | cons a r ih =>
  unfold findG at h
  split at h
  ·cases h
  ·rename_i hne
   intro g hg
   rcases List.mem_cons.1 hg with rfl|hg
   ·exact hne
   ·refine ih ?_ g hg
    cases hq:findG d r with
    | none=>rfl
    | some i=>rw [hq] at h;cases h
theorem Zsm {T:List GP} {p:PP} (h:findG p.2.1 T=none):addG p T=T++[(GP.new p).add p]:=by
 rw [Zlx h rfl]
 simp
theorem Zpu {l:List PP} {p:PP} {d:List Int} (h:p.2.1≠d):selG (l++[p]) d=selG l d:=by
 unfold selG
 rw [List.filter_append]
 simp [h]
theorem Zpv {l:List PP} {p:PP} {d:List Int} (h:p.2.1=d):selG (l++[p]) d=selG l d++[p]:=by
 unfold selG
 rw [List.filter_append]
 simp [h]
theorem Zjo {f:PP→Int} {l:List PP} {p:PP}:sumG f (l++[p])=sumG f l+f p:=by
 unfold sumG
 rw [List.map_append,List.sum_append]
 simp
theorem Zl5 (p:PP):((GP.new p).add p).out=p:=by
 obtain ⟨a,d,x,y,z⟩:=p
 show ((a,d,meanQ (0+x) (0+1),meanQ (0+y) (0+1),meanQ (0+z) (0+1)):PP)=_
 simp only [Int.zero_add,Nat.zero_add,Zv9]
theorem GInv.step {l:List PP} {T:List GP} (h:GInv l T) (p:PP):GInv (l++[p]) (addG p T):=by
 cases hf:findG p.2.1 T with
 | none =>
  have hn:=Zwu hf
  have hnl:∀ q∈l,q.2.1≠p.2.1:=fun q hq e=>by
   obtain ⟨g,hg,he⟩:=h.all q hq
   exact hn g hg (he.trans e)
  have hs0:selG l p.2.1=[]:=List.filter_eq_nil_iff.2 fun q hq=>by simp [hnl q hq]
  rw [Zsm hf]
  refine ⟨?_,?_,?_,?_,?_⟩
  ·rw [List.map_append,List.nodup_append]
   refine ⟨h.nodup,by simp,fun a ha b hb=>?_⟩
   obtain ⟨g,hg,rfl⟩:=List.mem_map.1 ha
   simp only [List.map_cons,List.map_nil,List.mem_singleton] at hb
   rw [hb]
   exact hn g hg
  ·intro g hg
   rcases List.mem_append.1 hg with hg|hg
   ·obtain ⟨⟨q,hq,h1,h2⟩,h3,h4,h5,h6,h7⟩:=h.grp g hg
    rw [Zpu (Ne.symm (hn g hg))]
    exact ⟨⟨q,List.mem_append_left _ hq,h1,h2⟩,h3,h4,h5,h6,h7⟩
   ·rw [List.mem_singleton.1 hg]
    have e:((GP.new p).add p).dev=p.2.1:=rfl
    rw [e,Zpv rfl,hs0]
    refine ⟨⟨p,List.mem_append_right _ (List.mem_singleton.2 rfl),rfl,rfl⟩,Nat.le_refl _,rfl,?_,?_,?_⟩
    ·show 0+p.2.2.1=_;simp [sumG]
    ·show 0+p.2.2.2.1=_;simp [sumG]
    ·show 0+p.2.2.2.2=_;simp [sumG]
  ·intro q hq
   rcases List.mem_append.1 hq with hq|hq
   ·obtain ⟨g,hg,he⟩:=h.all q hq
    exact ⟨g,List.mem_append_left _ hg,he⟩
   ·rw [List.mem_singleton.1 hq]
    exact ⟨_,List.mem_append_right _ (List.mem_singleton.2 rfl),rfl⟩
  ·rw [List.length_append,List.length_append]
   have:=h.len
   simp only [List.length_singleton];omega
  ·intro he
   rw [List.length_append,List.length_append] at he
   simp only [List.length_singleton] at he
   rw [List.map_append,h.full (by omega)]
   simp only [List.map_cons,List.map_nil,Zl5]
 | some i =>
  obtain ⟨g,hgi,hgd,ha⟩:=Zeb hf (p:=p) rfl
  have hi:=(List.getElem?_eq_some_iff.1 hgi).1
  have hgm:=List.mem_of_getElem? hgi
  rw [ha]
  refine ⟨?_,?_,?_,?_,?_⟩
  ·have e:(T.set i (g.add p)).map (·.dev)=T.map (·.dev):=by
    rw [List.map_set]
    have:(g.add p).dev=(T.map (·.dev))[i]'(by rw [List.length_map];exact hi):=by
     rw [List.getElem_map]
     rw [(List.getElem?_eq_some_iff.1 hgi).2]
     rfl
    rw [this,List.set_getElem_self]
   rw [e]
   exact h.nodup
  ·intro k hk
   obtain ⟨j,hj,rfl⟩:=List.getElem_of_mem hk
   rw [List.length_set] at hj
   by_cases hji:i=j
   ·subst hji
    rw [List.getElem_set_self]
    obtain ⟨⟨q,hq,h1,h2⟩,h3,h4,h5,h6,h7⟩:=h.grp g hgm
    have e:(g.add p).dev=g.dev:=rfl
    rw [e,Zpv hgd.symm,Zjo,Zjo,Zjo]
    refine ⟨⟨q,List.mem_append_left _ hq,h1,h2⟩,by show 1≤g.c+1;omega,?_,?_,?_,?_⟩
    ·show g.c+1=_
     rw [List.length_append,← h4];rfl
    ·show g.x+p.2.2.1=_
     rw [h5]
    ·show g.y+p.2.2.2.1=_
     rw [h6]
    ·show g.z+p.2.2.2.2=_
     rw [h7]
   ·rw [List.getElem_set_ne hji]
    have hne:p.2.1≠(T[j]).dev:=fun e=>by
     have hnd:=h.nodup
     rw [List.Nodup,List.pairwise_iff_getElem] at hnd
     have hgT:T[i]=g:=(List.getElem?_eq_some_iff.1 hgi).2
     rcases Nat.lt_or_gt_of_ne hji with hlt|hlt
     ·have:=hnd i j (by rw [List.length_map];exact hi) (by rw [List.length_map];exact hj) hlt
      rw [List.getElem_map,List.getElem_map,hgT] at this
      exact this (hgd.trans e)
     ·have:=hnd j i (by rw [List.length_map];exact hj) (by rw [List.length_map];exact hi) hlt
      rw [List.getElem_map,List.getElem_map,hgT] at this
      exact this (e.symm.trans hgd.symm)
    rw [Zpu hne]
    obtain ⟨⟨q,hq,h1,h2⟩,h3⟩:=h.grp _ (List.getElem_mem hj)
    exact ⟨⟨q,List.mem_append_left _ hq,h1,h2⟩,h3⟩
  ·intro q hq
   have hat:∀ g'∈T,∃ g2∈T.set i (g.add p),g2.dev=g'.dev:=fun g' hg'=>by
    obtain ⟨j,hj,rfl⟩:=List.getElem_of_mem hg'
    by_cases hji:i=j
    ·subst hji
     refine ⟨g.add p,List.mem_iff_getElem.2 ⟨i,by rw [List.length_set];exact hi,List.getElem_set_self _⟩,?_⟩
     rw [(List.getElem?_eq_some_iff.1 hgi).2];rfl
    ·exact ⟨T[j],List.mem_iff_getElem.2 ⟨j,by rw [List.length_set];exact hj,List.getElem_set_ne hji _⟩,rfl⟩
   rcases List.mem_append.1 hq with hq|hq
   ·obtain ⟨g',hg',he⟩:=h.all q hq
    obtain ⟨g2,k1,k2⟩:=hat g' hg'
    exact ⟨g2,k1,k2.trans he⟩
   ·rw [List.mem_singleton.1 hq]
    obtain ⟨g2,k1,k2⟩:=hat g hgm
    exact ⟨g2,k1,k2.trans hgd⟩
  ·rw [List.length_set,List.length_append]
   have:=h.len
   omega
  ·intro he
   rw [List.length_set,List.length_append] at he
   have:=h.len
   simp only [List.length_singleton] at he
   omega
theorem Zft (l:List PP):GInv l (mergeG l):=by
 have key:∀ (r l0:List PP) (T:List GP),GInv l0 T→GInv (l0++r) (r.foldl (fun T p=>addG p T) T):=by
  intro r
  induction r with
  | nil=>intro l0 T h;rw [List.append_nil];exact h
  | cons p r ih =>
   intro l0 T h
   have:=ih (l0++[p]) (addG p T) (h.step p)
   rwa [List.append_assoc] at this
 exact key l [] [] ⟨List.nodup_nil,(fun g hg=>by cases hg),(fun p hp=>by cases hp),Nat.le_refl _,fun _=>rfl⟩
theorem Zz4 {d:List Int} {T:List GP} (h:∀ g∈T,g.dev≠d):findG d T=none:=by
 induction T with
 | nil=>rfl
 | cons a r ih =>
  unfold findG
  rw [if_neg (h a (List.mem_cons_self ..)),ih fun g hg=>h g (List.mem_cons_of_mem _ hg)]
  rfl
theorem Zqh {l:List PP} (h:(l.map (·.2.1)).Nodup):mergeP l=l:=by
 have key:∀ (r l0:List PP),((l0++r).map (·.2.1)).Nodup→r.foldl (fun T p=>addG p T) (l0.map fun p=>(GP.new p).add p)=(l0++r).map fun p=>(GP.new p).add p:=by
  intro r
  induction r with
  | nil=>intro l0 _;rw [List.append_nil];rfl
  | cons p r ih =>
   intro l0 hn
   have hno:findG p.2.1 (l0.map fun p=>(GP.new p).add p)=none:=Zz4 fun g hg e=>by
    obtain ⟨q,hq,rfl⟩:=List.mem_map.1 hg
    rw [List.map_append,List.nodup_append] at hn
    exact hn.2.2 q.2.1 (List.mem_map_of_mem hq) p.2.1 (by simp) e
   rw [List.foldl_cons,Zsm hno]
   have:=ih (l0++[p]) (by rwa [List.append_assoc])
   rw [List.map_append,List.append_assoc] at this
   exact this
 have h1:=key l [] h
 unfold mergeP mergeG
 have h2:(([]:List PP).map fun p=>(GP.new p).add p)=[]:=rfl
 rw [h2,List.nil_append] at h1
 rw [h1,List.map_map]
 have e:(GP.out ∘ fun p=>(GP.new p).add p)=id:=funext fun p=>Zl5 p
 rw [e,List.map_id]
theorem Zj3 (l:List PP):((mergeP l).map (·.2.1)).Nodup:=by
 unfold mergeP
 rw [List.map_map]
 exact (Zft l).nodup
theorem Zqi (l:List PP):mergeP (mergeP l)=mergeP l:=Zqh (Zj3 l)
theorem Zu6 {f:PP→Int} {l:List PP} {lo hi:Int} (h:∀ p∈l,lo≤f p∧f p≤hi):lo * (l.length:Int)≤sumG f l∧sumG f l≤hi * (l.length:Int):=by
 unfold sumG
 induction l with
 | nil=>simp
 | cons a r ih =>
  have h1:=h a (List.mem_cons_self ..)
  have h2:=ih fun p hp=>h p (List.mem_cons_of_mem _ hp)
  rw [List.map_cons,List.sum_cons,List.length_cons]
  have e1:lo * ((r.length+1:Nat):Int)=lo * (r.length:Int)+lo:=by rw [Int.natCast_add];grind
  have e2:hi * ((r.length+1:Nat):Int)=hi * (r.length:Int)+hi:=by rw [Int.natCast_add];grind
  rw [e1,e2]
  omega
theorem Zfu {f:PP→Int} {l:List PP} {c:Nat} {s lo hi:Int} (h1:1≤c) (h2:c=l.length) (h3:s=sumG f l) (h:∀ p∈l,lo≤f p∧f p≤hi):lo≤meanQ s c∧meanQ s c≤hi:=by
 subst h2 h3
 exact Zzt h1 (Zu6 h).1 (Zu6 h).2
theorem Zqg {l:List PP} (h:checkP l=true):checkP (mergeP l)=true:=by
 obtain ⟨h1,h2,h3⟩:=Zw9.1 h
 generalize (l.headD ([],[],0,0,0)).2.1.length=n at h3
 have hI:=Zft l
 have hg:∀ g∈mergeG l,soundP g.out=true∧g.dev.length=n:=fun g hg=>by
  obtain ⟨⟨q,hq,k1,k2⟩,k3,k4,k5,k6,k7⟩:=hI.grp g hg
  obtain ⟨s1,s2⟩:=h3.sound q hq
  obtain ⟨a1,a2,a3,a4⟩:=Z3v.1 s1
  have hsel:∀ p∈selG l g.dev,soundP p=true:=fun p hp=>(h3.sound p (List.mem_filter.1 hp).1).1
  have m1:=Zfu (f:=(·.2.2.1)) (lo:=0) (hi:=10000) k3 k4 k5 fun p hp=>by have:=(Z3v.1 (hsel p hp)).2.2.2;exact ⟨this.1,this.2.1⟩
  have m2:=Zfu (f:=(·.2.2.2.1)) (lo:=-12800) (hi:=12700) k3 k4 k6 fun p hp=>by have:=(Z3v.1 (hsel p hp)).2.2.2;exact ⟨this.2.2.1,this.2.2.2.1⟩
  have m3:=Zfu (f:=(·.2.2.2.2)) (lo:=-12800) (hi:=12700) k3 k4 k7 fun p hp=>by have:=(Z3v.1 (hsel p hp)).2.2.2;exact ⟨this.2.2.2.2.1,this.2.2.2.2.2⟩
  refine ⟨Z3v.2 ⟨by show namedP g.nm=true;rw [← k1];exact a1,by show 1≤g.dev.length∧g.dev.length≤4;rw [← k2];exact a2,by show ∀ v∈g.dev,_;rw [← k2];exact a3,m1.1,m1.2,m2.1,m2.2,m3.1,m3.2⟩,by rw [← k2];exact s2⟩
 have hne:mergeP l≠[]:=fun e=>by
  cases l with
  | nil=>exact h1 rfl
  | cons a r =>
   obtain ⟨g,hg,_⟩:=hI.all a (List.mem_cons_self ..)
   have:g.out∈mergeP (a::r):=List.mem_map_of_mem hg
   rw [e] at this
   cases this
 have hall:∀ p∈mergeP l,soundP p=true∧p.2.1.length=n:=fun p hp=>by
  obtain ⟨g,hg',rfl⟩:=List.mem_map.1 hp
  exact hg g hg'
 have hhd:((mergeP l).headD ([],[],0,0,0)).2.1.length=n:=by
  cases hq:mergeP l with
  | nil=>exact absurd hq hne
  | cons p r=>exact (hall p (by rw [hq];exact List.mem_cons_self ..)).2
 refine Zw9.2 ⟨hne,?_,?_⟩
 ·unfold mergeP;rw [List.length_map];exact Nat.le_trans hI.len h2
 ·rw [hhd]
  refine ⟨hall,?_⟩
  unfold mergeP
  rw [List.map_map,List.Nodup,List.pairwise_iff_getElem]
  intro i j hi hj hij
  rw [List.length_map] at hi hj
  rw [List.getElem_map,List.getElem_map]
  intro e
  obtain ⟨⟨q1,q1m,q1n,q1d⟩,_⟩:=hI.grp _ (List.getElem_mem hi)
  obtain ⟨⟨q2,q2m,q2n,q2d⟩,_⟩:=hI.grp _ (List.getElem_mem hj)
  have hnn:q1.1=q2.1:=q1n.trans (Eq.trans e q2n.symm)
  have hqq:q1=q2:=by
   obtain ⟨a,ha,rfl⟩:=List.getElem_of_mem q1m
   obtain ⟨b,hb,rfl⟩:=List.getElem_of_mem q2m
   have hnd:=h3.nodup
   rw [List.Nodup,List.pairwise_iff_getElem] at hnd
   by_cases hab:a=b
   ·subst hab;rfl
   ·rcases Nat.lt_or_gt_of_ne hab with hlt|hlt
    ·exact absurd (by rw [List.getElem_map,List.getElem_map];exact hnn) (hnd a b (by rw [List.length_map];exact ha) (by rw [List.length_map];exact hb) hlt)
    ·exact absurd (by rw [List.getElem_map,List.getElem_map];exact hnn.symm) (hnd b a (by rw [List.length_map];exact hb) (by rw [List.length_map];exact ha) hlt)
  have hnd:=hI.nodup
  rw [List.Nodup,List.pairwise_iff_getElem] at hnd
  have:=hnd i j (by rw [List.length_map];exact hi) (by rw [List.length_map];exact hj) hij
  rw [List.getElem_map,List.getElem_map,← q1d,← q2d,hqq] at this
  exact this rfl
end Go.Proofs.YtciadfpomkdlnaaGreatDoor.Q

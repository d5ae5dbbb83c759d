/- Walks: the reference of the chapter on insides: points on a mesh, winding numbers, sides. -/
import Derived.Test.YtgapnfaakdjpaaaGreatDoorJr1
import Derived.Test.YtgapnfaakdjpaaaGreatDoorIx7
namespace Go.Sx
open Go
def onAtR (P:List V3) (p f:V3):Bool:=onT axR (relV P p f.x) (relV P p f.y) (relV P p f.z)
theorem onR_none {P F:List V3} {p:V3} (h:∀ j < F.length,∀ f,F[j]?=some f→onAtR P p f=false):onM axR P F p=false:=by
  unfold onM
  rw [List.any_eq_false]
  intro f hf
  obtain ⟨j,hj⟩:=List.getElem?_of_mem hf
  have hlt:=(List.getElem?_eq_some_iff.1 hj).1
  have:=h j hlt f hj
  unfold onAtR at this
  rw [this];simp
theorem onR_some {P F:List V3} {p f:V3} {j:Nat} (hj:F[j]?=some f) (h:onAtR P p f=true):onM axR P F p=true:=by
  unfold onM
  rw [List.any_eq_true]
  exact ⟨f,List.mem_of_getElem? hj,h⟩
theorem hit_no {d a b c:V3} (h:det3 a b c=0):hit3 d a b c=0:=by
  unfold hit3 hitS
  exact if_neg fun k=>k.1 h
theorem hit_if {d a b c:V3} (h:det3 a b c≠0):hit3 d a b c=if (det3 d b c).sign=(det3 a b c).sign∧(det3 a d c).sign=(det3 a b c).sign∧(det3 a b d).sign=(det3 a b c).sign then (det3 a b c).sign else 0:=by
  unfold hit3 hitS
  rw [cyc3 d c a,cyc3' d a b]
  by_cases hc:(det3 d b c).sign=(det3 a b c).sign∧(det3 a d c).sign=(det3 a b c).sign∧(det3 a b d).sign=(det3 a b c).sign
  · rw [if_pos hc,if_pos ⟨h,hc⟩]
  · rw [if_neg hc,if_neg fun k=>hc k.2]
def wndR (P F:List V3) (p d:V3):Int × Bool:=if fineB P F p d=true then (windM P F p d,true) else (0,false)
end Go.Sx
namespace Go.Proofs.YtgapnfaakdjpaaaGreatDoor
open Go Go.Sx
variable {w0:World} {As:List Ent} {pv fv:Value} {pts fcs:List V3}
theorem rOn_ok {p:V3} (hg:Sx.Good pts fcs) (hs:Seeable pts fcs p) [RdIn As fv V3 cV3 fcs] [RdIn As pv V3 cV3 pts] :
    CallsS Tryz.prog w0 44 [.agg #[pv,fv],p.val] As fun r Bs=>r=.bool (onM axR pts fcs p)∧Bs=As:=by
  have hl:=hs.lenF
  refine CallsS.of_tri Tryz.func44 rfl Tryz.ntmps44 rfl ?_
  show Tri _ _ _ _ (env0 0 [.agg #[pv,fv],.agg #[.int .i64 p.x,.int .i64 p.y,.int .i64 p.z]]) _ _
  (repeat' first|(refine Ka ?_;first|refine Kb ?_|(refine Kc ?_;intro _))|refine Kd ?_|refine Ke ?_|refine Kf ?_|refine Kg rfl ?_|refine Kh ?_)
  rename_i b2 b3
  refine Tri.loop (ι:=Nat) (fun k=>k≤fcs.length∧∀ j < k,∀ f,fcs[j]?=some f→onAtR pts p f=false) (fun k=>fcs.length - k)
    (fun k=>[(2,.pointer (some ⟨b2,0,none⟩)),(3,.pointer (some ⟨b3,0,none⟩)),(5,.int .i64 (k:Int))]) (fun k=>.cl b2 [pv,fv] 34::.cl b3 [.int .i64 p.x,.int .i64 p.y,.int .i64 p.z] 31::As) 0 ⟨by omega,fun j h=>by omega⟩ (by (exact Sub.au)) (by (exact Ents.au)) ?_
  intro k ⟨hk,hI⟩
  (repeat' first|(refine Ka ?_;first|refine Kb ?_|(refine Kc ?_;intro _))|refine Kd ?_|refine Ke ?_|refine Kf ?_|refine Kg rfl ?_|refine Kh ?_)
  ((show Tri _ _ _ (.cond _ _ _) _ _ _;first|refine Tri.condP rfl (fun hc=>?_) (fun hc=>?_)|refine Tri.condN rfl (fun hc=>?_) (fun hc=>?_)))
  · obtain ⟨f,hf⟩:∃ f,fcs[k]?=some f:=⟨_,List.getElem?_eq_getElem (by omega)⟩
    have hI':onAtR pts p f=false→∀ j < k+1,∀ f,fcs[j]?=some f→onAtR pts p f=false:=fun h j hj g hg=>by
      rcases Nat.lt_or_ge j k with h1|h1
      · exact hI j h1 g hg
      · rw [show j=k from by omega,hf] at hg
        rw [← Option.some.inj hg];exact h
    (repeat' first|(refine Ka ?_;first|refine Kb ?_|(refine Kc ?_;intro _))|refine Kd ?_|refine Ke ?_|refine Kf ?_|refine Kg rfl ?_|refine Kh ?_)
    refine TL.callv rfl rfl rfl rfl (ronF_ok (k:=k) (p:=p) hf (hg.right (List.mem_of_getElem? hf)) hs) ?_
    rintro _ _ ⟨rfl,rfl⟩
    rw [show onT axR (relV pts p f.x) (relV pts p f.y) (relV pts p f.z)=onAtR pts p f from rfl]
    cases hv:onAtR pts p f with
    | true =>
      (repeat' first|(refine Ka ?_;first|refine Kb ?_|(refine Kc ?_;intro _))|refine Kd ?_|refine Ke ?_|refine Kf ?_|refine Kg rfl ?_|refine Kh ?_)
      (refine Post.ra ?_)
      exact ⟨_,⟨by rw [onR_some hf hv],rfl⟩,by (exact Ents.au)⟩
    | false =>
      (repeat' first|(refine Ka ?_;first|refine Kb ?_|(refine Kc ?_;intro _))|refine Kd ?_|refine Ke ?_|refine Kf ?_|refine Kg rfl ?_|refine Kh ?_)
      exact Post.round (k+1) ⟨by omega,hI' hv⟩ (by omega) (by (exact Sub.au)) (by (exact Ents.au))
  · (repeat' first|(refine Ka ?_;first|refine Kb ?_|(refine Kc ?_;intro _))|refine Kd ?_|refine Ke ?_|refine Kf ?_|refine Kg rfl ?_|refine Kh ?_)
    (refine Post.ra ?_)
    exact ⟨_,⟨by rw [onR_none fun j hj=>hI j (by omega)],rfl⟩,by (exact Ents.au)⟩
set_option maxHeartbeats 2000000 in
theorem rwound_ok {p d:V3} (hg:Sx.Good pts fcs) (hs:Seeable pts fcs p) (hd:d.in 3243601) [RdIn As fv V3 cV3 fcs] [RdIn As pv V3 cV3 pts] :
    CallsS Tryz.prog w0 45 [.agg #[pv,fv],p.val,d.val] As fun r Bs=>r=.tuple #[.int .i64 (wndR pts fcs p d).1,.bool (wndR pts fcs p d).2]∧Bs=As:=by
  have hl:=hs.lenF
  refine CallsS.of_tri Tryz.func45 rfl Tryz.ntmps45 rfl ?_
  show Tri _ _ _ _ (env0 0 [.agg #[pv,fv],.agg #[.int .i64 p.x,.int .i64 p.y,.int .i64 p.z],.agg #[.int .i64 d.x,.int .i64 d.y,.int .i64 d.z]]) _ _
  (repeat' first|(refine Ka ?_;first|refine Kb ?_|(refine Kc ?_;intro _))|refine Kd ?_|refine Ke ?_|refine Kf ?_|refine Kg rfl ?_|refine Kh ?_)
  rename_i b3 b4 b5
  refine Tri.loop (ι:=Nat) (fun k=>k≤fcs.length∧∀ j < k,∀ f,fcs[j]?=some f→fineAt pts p d f=true) (fun k=>fcs.length - k)
    (fun k=>[(3,.pointer (some ⟨b3,0,none⟩)),(4,.pointer (some ⟨b4,0,none⟩)),(5,.pointer (some ⟨b5,0,none⟩)),(8,.int .i64 (windM pts (fcs.take k) p d)),(9,.int .i64 (k:Int))])
    (fun k=>.cl b3 [pv,fv] 34::.cl b4 [.int .i64 p.x,.int .i64 p.y,.int .i64 p.z] 31::.cl b5 [.int .i64 d.x,.int .i64 d.y,.int .i64 d.z] 31::As) 0 ⟨by omega,fun j h=>by omega⟩ (by (exact Sub.au)) (by (exact Ents.au)) ?_
  intro k ⟨hk,hI⟩
  have hin:=windK_in (P:=pts) (p:=p) (d:=d) (F:=fcs.take k)
  rw [List.length_take] at hin
  have hwk:=fun f=>windK_succ (P:=pts) (F:=fcs) (p:=p) (d:=d) (f:=f) (k:=k)
  have hwe:k=fcs.length→windM pts (fcs.take k) p d=windM pts fcs p d:=fun h=>by rw [h,List.take_length]
  generalize windM pts (fcs.take k) p d=n at *
  (repeat' first|(refine Ka ?_;first|refine Kb ?_|(refine Kc ?_;intro _))|refine Kd ?_|refine Ke ?_|refine Kf ?_|refine Kg rfl ?_|refine Kh ?_)
  ((show Tri _ _ _ (.cond _ _ _) _ _ _;first|refine Tri.condP rfl (fun hc=>?_) (fun hc=>?_)|refine Tri.condN rfl (fun hc=>?_) (fun hc=>?_)))
  · obtain ⟨f,hf⟩:∃ f,fcs[k]?=some f:=⟨_,List.getElem?_eq_getElem (by omega)⟩
    obtain ⟨g1,g2,g3⟩:=hs.rel (List.mem_of_getElem? hf)
    have hI':fineAt pts p d f=true→∀ j < k+1,∀ f,fcs[j]?=some f→fineAt pts p d f=true:=fun h j hj g hg=>by
      rcases Nat.lt_or_ge j k with h1|h1
      · exact hI j h1 g hg
      · rw [show j=k from by omega,hf] at hg
        rw [← Option.some.inj hg];exact h
    have hnot:=fine_not (P:=pts) (d:=d) (p:=p) hf
    have hwk:=hwk f hf
    clear hI
    (repeat' first|(refine Ka ?_;first|refine Kb ?_|(refine Kc ?_;intro _))|refine Kd ?_|refine Ke ?_|refine Kf ?_|refine Kg rfl ?_|refine Kh ?_)
    refine TL.callv rfl rfl rfl rfl (rcorners_ok (k:=k) (p:=p) hf hs) ?_
    rintro _ _ ⟨rfl,rfl⟩
    rw [show hitF pts p d f=hit3 d (relV pts p f.x) (relV pts p f.y) (relV pts p f.z) from rfl] at hwk
    rw [show fineAt pts p d f=fineT d (relV pts p f.x) (relV pts p f.y) (relV pts p f.z) from rfl] at hI' hnot
    generalize relV pts p f.x=a at *
    generalize relV pts p f.y=b at *
    generalize relV pts p f.z=c at *
    show TL _ _ _ _ _ ((_,.tuple #[.agg #[.int .i64 a.x,.int .i64 a.y,.int .i64 a.z],.agg #[.int .i64 b.x,.int .i64 b.y,.int .i64 b.z],.agg #[.int .i64 c.x,.int .i64 c.y,.int .i64 c.z]])::_) _ _
    (repeat' first|(refine Ka ?_;first|refine Kb ?_|(refine Kc ?_;intro _))|refine Kd ?_|refine Ke ?_|refine Kf ?_|refine Kg rfl ?_|refine Kh ?_)
    rename_i b10 b11 b12
    refine TL.callv rfl rfl rfl rfl (rdet_ok (u:=a) (v:=b) (w:=c) g1 g2 g3 (by decide) (by decide) (by decide) (by decide) (by decide)) ?_
    rintro _ _ ⟨rfl,rfl⟩
    (repeat' first|(refine Ka ?_;first|refine Kb ?_|(refine Kc ?_;intro _))|refine Kd ?_|refine Ke ?_|refine Kf ?_|refine Kg rfl ?_|refine Kh ?_)
    refine TL.call rfl rfl rfl rsign_ok ?_
    rintro _ _ ⟨rfl,rfl⟩
    have k1:=fun Bs=>rdet_ok (w0:=w0) (As:=Bs) (u:=d) (v:=b) (w:=c) hd g2 g3 (by decide) (by decide) (by decide) (by decide) (by decide)
    have k2:=fun Bs=>rdet_ok (w0:=w0) (As:=Bs) (u:=a) (v:=d) (w:=c) g1 hd g3 (by decide) (by decide) (by decide) (by decide) (by decide)
    have k3:=fun Bs=>rdet_ok (w0:=w0) (As:=Bs) (u:=a) (v:=b) (w:=d) g1 g2 hd (by decide) (by decide) (by decide) (by decide) (by decide)
    have hs0:=sgn_in (det3 a b c)
    by_cases hD:det3 a b c=0
    · rw [hit_no hD,Int.add_zero] at hwk
      have hfi:fineT d a b c=true:=by unfold fineT;rw [decide_eq_true hD];rfl
      rw [hD]
      (repeat' first|(refine Ka ?_;first|refine Kb ?_|(refine Kc ?_;intro _))|refine Kd ?_|refine Ke ?_|refine Kf ?_|refine Kg rfl ?_|refine Kh ?_)
      exact Post.round (k+1) ⟨by omega,hI' hfi⟩ (by omega) (by rw [hwk];(exact Sub.au)) (by (exact Ents.au))
    · rw [hit_if hD] at hwk
      have hD2:(det3 a b c).sign≠0:=by rw [ne_eq,Int.sign_eq_zero_iff_zero];exact hD
      have hfi:fineT d a b c=(decide (det3 d b c≠0)&&decide (det3 a d c≠0)&&decide (det3 a b d≠0)):=by unfold fineT;rw [decide_eq_false hD];rfl
      rw [hfi] at hI' hnot
      have s1:(det3 d b c).sign=0↔det3 d b c=0:=Int.sign_eq_zero_iff_zero
      have s2:(det3 a d c).sign=0↔det3 a d c=0:=Int.sign_eq_zero_iff_zero
      have s3:(det3 a b d).sign=0↔det3 a b d=0:=Int.sign_eq_zero_iff_zero
      simp only [ne_eq,← s1,← s2,← s3] at hI' hnot
      generalize (det3 a b c).sign=s at *
      (repeat' first|(refine Ka ?_;first|refine Kb ?_|(refine Kc ?_;intro _))|refine Kd ?_|refine Ke ?_|refine Kf ?_|refine Kg rfl ?_|refine Kh ?_)
      refine Tri.dw [.cl b5 [.int .i64 d.x,.int .i64 d.y,.int .i64 d.z] 31,.cl b10 [.int .i64 a.x,.int .i64 a.y,.int .i64 a.z] 31,.cl b11 [.int .i64 b.x,.int .i64 b.y,.int .i64 b.z] 31,.cl b12 [.int .i64 c.x,.int .i64 c.y,.int .i64 c.z] 31] [] (.take 0 (.take 1 (.take 2 (.take 5 (.take 6 (.take 7 (.take 10 (.take 11 (.take 12 (.all [(3,.all [(4,.all [(8,.all [(9,.all [(13,.all [(14,.take 15 (.take 16 (.take 17 (.done))))])])])])])])))))))))) ?_
      (repeat' first|(refine Ka ?_;first|refine Kb ?_|(refine Kc ?_;intro _))|refine Kd ?_|refine Ke ?_|refine Kf ?_|refine Kg rfl ?_|(refine Ki ?_;refine Kj ?_)|exact Kk|refine Kl ?_ ?_|(refine Km ?_;first|refine Kn ?_|(refine Ko ?_;intro _))|(refine Kp ?_;first|refine Kq ?_|refine Kr ?_)|refine Kh ?_)
      refine T1.callv rfl rfl rfl rfl rfl (k1 _) ?_
      rintro _ _ ⟨rfl,rfl⟩
      (repeat' first|(refine Ka ?_;first|refine Kb ?_|(refine Kc ?_;intro _))|refine Kd ?_|refine Ke ?_|refine Kf ?_|refine Kg rfl ?_|(refine Ki ?_;refine Kj ?_)|exact Kk|refine Kl ?_ ?_|(refine Km ?_;first|refine Kn ?_|(refine Ko ?_;intro _))|(refine Kp ?_;first|refine Kq ?_|refine Kr ?_)|refine Kh ?_)
      refine T1.call rfl rfl rfl rfl rsign_ok ?_
      rintro _ _ ⟨rfl,rfl⟩
      (repeat' first|(refine Ka ?_;first|refine Kb ?_|(refine Kc ?_;intro _))|refine Kd ?_|refine Ke ?_|refine Kf ?_|refine Kg rfl ?_|(refine Ki ?_;refine Kj ?_)|exact Kk|refine Kl ?_ ?_|(refine Km ?_;first|refine Kn ?_|(refine Ko ?_;intro _))|(refine Kp ?_;first|refine Kq ?_|refine Kr ?_)|refine Kh ?_)
      refine T1.callv rfl rfl rfl rfl rfl (k2 _) ?_
      rintro _ _ ⟨rfl,rfl⟩
      (repeat' first|(refine Ka ?_;first|refine Kb ?_|(refine Kc ?_;intro _))|refine Kd ?_|refine Ke ?_|refine Kf ?_|refine Kg rfl ?_|(refine Ki ?_;refine Kj ?_)|exact Kk|refine Kl ?_ ?_|(refine Km ?_;first|refine Kn ?_|(refine Ko ?_;intro _))|(refine Kp ?_;first|refine Kq ?_|refine Kr ?_)|refine Kh ?_)
      refine T1.call rfl rfl rfl rfl rsign_ok ?_
      rintro _ _ ⟨rfl,rfl⟩
      (repeat' first|(refine Ka ?_;first|refine Kb ?_|(refine Kc ?_;intro _))|refine Kd ?_|refine Ke ?_|refine Kf ?_|refine Kg rfl ?_|(refine Ki ?_;refine Kj ?_)|exact Kk|refine Kl ?_ ?_|(refine Km ?_;first|refine Kn ?_|(refine Ko ?_;intro _))|(refine Kp ?_;first|refine Kq ?_|refine Kr ?_)|refine Kh ?_)
      refine T1.callv rfl rfl rfl rfl rfl (k3 _) ?_
      rintro _ _ ⟨rfl,rfl⟩
      (repeat' first|(refine Ka ?_;first|refine Kb ?_|(refine Kc ?_;intro _))|refine Kd ?_|refine Ke ?_|refine Kf ?_|refine Kg rfl ?_|(refine Ki ?_;refine Kj ?_)|exact Kk|refine Kl ?_ ?_|(refine Km ?_;first|refine Kn ?_|(refine Ko ?_;intro _))|(refine Kp ?_;first|refine Kq ?_|refine Kr ?_)|refine Kh ?_)
      refine T1.call rfl rfl rfl rfl rsign_ok ?_
      rintro _ _ ⟨rfl,rfl⟩
      generalize (det3 d b c).sign=x at *
      generalize (det3 a d c).sign=y at *
      generalize (det3 a b d).sign=z at *
      clear s1 s2 s3 k1 k2 k3 g1 g2 g3 hfi
      (repeat' first|(refine Ka ?_;first|refine Kb ?_|(refine Kc ?_;intro _))|refine Kd ?_|refine Ke ?_|refine Kf ?_|refine Kg rfl ?_|(refine Ki ?_;refine Kj ?_)|exact Kk|refine Kl ?_ ?_|(refine Km ?_;first|refine Kn ?_|(refine Ko ?_;intro _))|(refine Kp ?_;first|refine Kq ?_|refine Kr ?_)|refine Kh ?_)
      by_cases h1:x=0
      · have hno:=hnot (by rw [decide_eq_false (fun h=>h h1)];rfl)
        (repeat' first|(refine Ka ?_;first|refine Kb ?_|(refine Kc ?_;intro _))|refine Kd ?_|refine Ke ?_|refine Kf ?_|refine Kg rfl ?_|(refine Ki ?_;refine Kj ?_)|exact Kk|refine Kl ?_ ?_|(refine Km ?_;first|refine Kn ?_|(refine Ko ?_;intro _))|(refine Kp ?_;first|refine Kq ?_|refine Kr ?_)|refine Kh ?_)
        (refine Post.ra ?_)
        exact ⟨_,⟨by rw [wndR,if_neg (by rw [hno];decide)],rfl⟩,by (exact Ents.au)⟩
      by_cases h2:y=0
      · have hno:=hnot (by rw [decide_eq_false (p:=¬ y=0) (fun h=>h h2),Bool.and_false];rfl)
        (repeat' first|(refine Ka ?_;first|refine Kb ?_|(refine Kc ?_;intro _))|refine Kd ?_|refine Ke ?_|refine Kf ?_|refine Kg rfl ?_|(refine Ki ?_;refine Kj ?_)|exact Kk|refine Kl ?_ ?_|(refine Km ?_;first|refine Kn ?_|(refine Ko ?_;intro _))|(refine Kp ?_;first|refine Kq ?_|refine Kr ?_)|refine Kh ?_)
        (refine Post.ra ?_)
        exact ⟨_,⟨by rw [wndR,if_neg (by rw [hno];decide)],rfl⟩,by (exact Ents.au)⟩
      by_cases h3:z=0
      · have hno:=hnot (by rw [decide_eq_false (p:=¬ z=0) (fun h=>h h3),Bool.and_false])
        (repeat' first|(refine Ka ?_;first|refine Kb ?_|(refine Kc ?_;intro _))|refine Kd ?_|refine Ke ?_|refine Kf ?_|refine Kg rfl ?_|(refine Ki ?_;refine Kj ?_)|exact Kk|refine Kl ?_ ?_|(refine Km ?_;first|refine Kn ?_|(refine Ko ?_;intro _))|(refine Kp ?_;first|refine Kq ?_|refine Kr ?_)|refine Kh ?_)
        (refine Post.ra ?_)
        exact ⟨_,⟨by rw [wndR,if_neg (by rw [hno];decide)],rfl⟩,by (exact Ents.au)⟩
      have hI2:=hI' (by rw [decide_eq_true h1,decide_eq_true h2,decide_eq_true h3];rfl)
      by_cases q:x=s∧y=s∧z=s
      · rw [if_pos q] at hwk
        obtain ⟨q1,q2,q3⟩:=q
        clear hI' hnot
        (repeat' first|(refine Ka ?_;first|refine Kb ?_|(refine Kc ?_;intro _))|refine Kd ?_|refine Ke ?_|refine Kf ?_|refine Kg rfl ?_|refine Kh ?_)
        exact Post.round (k+1) ⟨by omega,hI2⟩ (by omega) (by rw [hwk];(exact Sub.au)) (by (exact Ents.au))
      · rw [if_neg q,Int.add_zero] at hwk
        clear hI' hnot
        by_cases q1:x=s
        · by_cases q2:y=s
          · have q3:¬ z=s:=fun h=>q ⟨q1,q2,h⟩
            (repeat' first|(refine Ka ?_;first|refine Kb ?_|(refine Kc ?_;intro _))|refine Kd ?_|refine Ke ?_|refine Kf ?_|refine Kg rfl ?_|refine Kh ?_)
            exact Post.round (k+1) ⟨by omega,hI2⟩ (by omega) (by rw [hwk];(exact Sub.au)) (by (exact Ents.au))
          · (repeat' first|(refine Ka ?_;first|refine Kb ?_|(refine Kc ?_;intro _))|refine Kd ?_|refine Ke ?_|refine Kf ?_|refine Kg rfl ?_|refine Kh ?_)
            exact Post.round (k+1) ⟨by omega,hI2⟩ (by omega) (by rw [hwk];(exact Sub.au)) (by (exact Ents.au))
        · (repeat' first|(refine Ka ?_;first|refine Kb ?_|(refine Kc ?_;intro _))|refine Kd ?_|refine Ke ?_|refine Kf ?_|refine Kg rfl ?_|refine Kh ?_)
          exact Post.round (k+1) ⟨by omega,hI2⟩ (by omega) (by rw [hwk];(exact Sub.au)) (by (exact Ents.au))
  · have hfin:=fine_all (P:=pts) (F:=fcs) (p:=p) (d:=d) fun j hj=>hI j (by omega)
    have hwe:=hwe (by omega)
    (repeat' first|(refine Ka ?_;first|refine Kb ?_|(refine Kc ?_;intro _))|refine Kd ?_|refine Ke ?_|refine Kf ?_|refine Kg rfl ?_|refine Kh ?_)
    (refine Post.ra ?_)
    exact ⟨_,⟨by rw [wndR,if_pos hfin,hwe],rfl⟩,by (exact Ents.au)⟩
theorem rWinding_ok {p:V3} [RdIn As fv V3 cV3 fcs] [RdIn As pv V3 cV3 pts] :
    CallsS Tryz.prog w0 14 [.agg #[pv,fv],p.val] As fun r Bs=>r=.tuple #[.int .i64 (wndW pts fcs p).1,.int .i64 (wndW pts fcs p).2]∧Bs=As:=by
  refine CallsS.of_tri Tryz.func14 rfl Tryz.ntmps14 rfl ?_
  show Tri _ _ _ _ (env0 0 [.agg #[pv,fv],.agg #[.int .i64 p.x,.int .i64 p.y,.int .i64 p.z]]) _ _
  (repeat' first|(refine Ka ?_;first|refine Kb ?_|(refine Kc ?_;intro _))|refine Kd ?_|refine Ke ?_|refine Kf ?_|refine Kg rfl ?_|refine Kh ?_)
  rename_i b2 b3
  refine TL.callv rfl rfl rfl rfl (rchecked_ok (pv:=pv) (fv:=fv) (pts:=pts) (fcs:=fcs) (p:=p)) ?_
  rintro _ _ ⟨rfl,rfl⟩
  by_cases hfl:(flawM pts fcs).1=0
  · have hg:Sx.Good pts fcs:=okM_good.1 hfl
    cases hfar:isFar p with
    | true =>
      rw [show chkW pts fcs p=2 by unfold chkW;rw [hfl,hfar];rfl,show wndW pts fcs p=(0,2) by unfold wndW;rw [hfl,hfar];rfl]
      (repeat' first|(refine Ka ?_;first|refine Kb ?_|(refine Kc ?_;intro _))|refine Kd ?_|refine Ke ?_|refine Kf ?_|refine Kg rfl ?_|refine Kh ?_)
      (refine Post.ra ?_)
      exact ⟨_,⟨rfl,rfl⟩,by (exact Ents.au)⟩
    | false =>
      rw [show chkW pts fcs p=0 by unfold chkW;rw [hfl,hfar];rfl,show wndW pts fcs p=if onM axP pts fcs p then (0,8) else (windN pts fcs p,0) by unfold wndW;rw [hfl,hfar];rfl]
      have hs:=hg.see hfar
      (repeat' first|(refine Ka ?_;first|refine Kb ?_|(refine Kc ?_;intro _))|refine Kd ?_|refine Ke ?_|refine Kf ?_|refine Kg rfl ?_|refine Kh ?_)
      refine TL.callv rfl rfl rfl rfl (rOn_ok (pv:=pv) (fv:=fv) (p:=p) hg hs) ?_
      rintro _ _ ⟨rfl,rfl⟩
      rw [onM_eq hg]
      cases hon:onM axR pts fcs p with
      | true =>
        rw [if_pos rfl]
        (repeat' first|(refine Ka ?_;first|refine Kb ?_|(refine Kc ?_;intro _))|refine Kd ?_|refine Ke ?_|refine Kf ?_|refine Kg rfl ?_|refine Kh ?_)
        (refine Post.ra ?_)
        exact ⟨_,⟨rfl,rfl⟩,by (exact Ents.au)⟩
      | false =>
        rw [if_neg (by decide)]
        obtain ⟨T,hT,h1T,hT1,hfT⟩:=goodT_some hg p
        have hmin:=goodT_min hT
        have hwN:windN pts fcs p=windM pts fcs p (dirT T):=by unfold windN;rw [hT]
        have hfB:=fineB_iff.2 hfT
        (repeat' first|(refine Ka ?_;first|refine Kb ?_|(refine Kc ?_;intro _))|refine Kd ?_|refine Ke ?_|refine Kf ?_|refine Kg rfl ?_|refine Kh ?_)
        refine Tri.loop (ι:=Nat) (fun t=>1≤t∧t≤T) (fun t=>T - t)
          (fun t=>[(2,.pointer (some ⟨b2,0,none⟩)),(3,.pointer (some ⟨b3,0,none⟩)),(7,.int .i64 (t:Int))]) (fun t=>.cl b2 [pv,fv] 34::.cl b3 [.int .i64 p.x,.int .i64 p.y,.int .i64 p.z] 31::As) 1 ⟨by omega,by omega⟩ (by (exact Sub.au)) (by (exact Ents.au)) ?_
        intro t ⟨ht1,htT⟩
        obtain ⟨hdi,hq1,hq2⟩:=dirT_in (t:=t) (by omega)
        (repeat' first|(refine Ka ?_;first|refine Kb ?_|(refine Kc ?_;intro _))|refine Kd ?_|refine Ke ?_|refine Kf ?_|refine Kg rfl ?_|refine Kh ?_)
        refine TL.callv rfl rfl rfl rfl (rwound_ok (pv:=pv) (fv:=fv) (p:=p) (d:=dirT t) hg hs hdi) ?_
        rintro _ _ ⟨rfl,rfl⟩
        by_cases htt:t=T
        · rw [wndR,if_pos (by rw [htt];exact hfB),htt,hwN]
          generalize windM pts fcs p (dirT T)=n
          (repeat' first|(refine Ka ?_;first|refine Kb ?_|(refine Kc ?_;intro _))|refine Kd ?_|refine Ke ?_|refine Kf ?_|refine Kg rfl ?_|refine Kh ?_)
          (refine Post.ra ?_)
          exact ⟨_,⟨rfl,rfl⟩,by (exact Ents.au)⟩
        · rw [wndR,if_neg (by rw [hmin t ht1 (by omega)];decide)]
          (repeat' first|(refine Ka ?_;first|refine Kb ?_|(refine Kc ?_;intro _))|refine Kd ?_|refine Ke ?_|refine Kf ?_|refine Kg rfl ?_|refine Kh ?_)
          exact Post.round (t+1) ⟨by omega,by omega⟩ (by omega) (by (exact Sub.au)) (by (exact Ents.au))
  · rw [show chkW pts fcs p=350 from if_pos hfl,show wndW pts fcs p=(0,350) from if_pos hfl]
    (repeat' first|(refine Ka ?_;first|refine Kb ?_|(refine Kc ?_;intro _))|refine Kd ?_|refine Ke ?_|refine Kf ?_|refine Kg rfl ?_|refine Kh ?_)
    (refine Post.ra ?_)
    exact ⟨_,⟨rfl,rfl⟩,by (exact Ents.au)⟩
theorem rSide_ok {p:V3} [RdIn As fv V3 cV3 fcs] [RdIn As pv V3 cV3 pts] :
    CallsS Tryz.prog w0 16 [.agg #[pv,fv],p.val] As fun r Bs=>r=.tuple #[.int .i64 (sideW pts fcs p).1,.int .i64 (sideW pts fcs p).2]∧Bs=As:=by
  refine CallsS.of_tri Tryz.func16 rfl Tryz.ntmps16 rfl ?_
  show Tri _ _ _ _ (env0 0 [.agg #[pv,fv],.agg #[.int .i64 p.x,.int .i64 p.y,.int .i64 p.z]]) _ _
  (repeat' first|(refine Ka ?_;first|refine Kb ?_|(refine Kc ?_;intro _))|refine Kd ?_|refine Ke ?_|refine Kf ?_|refine Kg rfl ?_|refine Kh ?_)
  refine TL.callv rfl rfl rfl rfl (rWinding_ok (pv:=pv) (fv:=fv) (pts:=pts) (fcs:=fcs) (p:=p)) ?_
  rintro _ _ ⟨rfl,rfl⟩
  by_cases hfl:(flawM pts fcs).1=0
  · cases hfar:isFar p with
    | true =>
      rw [show sideW pts fcs p=(0,2) by unfold sideW;rw [hfl,hfar];rfl,show wndW pts fcs p=(0,2) by unfold wndW;rw [hfl,hfar];rfl]
      (repeat' first|(refine Ka ?_;first|refine Kb ?_|(refine Kc ?_;intro _))|refine Kd ?_|refine Ke ?_|refine Kf ?_|refine Kg rfl ?_|refine Kh ?_)
      (refine Post.ra ?_)
      exact ⟨_,⟨rfl,rfl⟩,by (exact Ents.au)⟩
    | false =>
      cases hon:onM axP pts fcs p with
      | true =>
        rw [show sideW pts fcs p=(1,0) by unfold sideW;rw [hfl,hfar,hon];rfl,show wndW pts fcs p=(0,8) by unfold wndW;rw [hfl,hfar,hon];rfl]
        (repeat' first|(refine Ka ?_;first|refine Kb ?_|(refine Kc ?_;intro _))|refine Kd ?_|refine Ke ?_|refine Kf ?_|refine Kg rfl ?_|refine Kh ?_)
        (refine Post.ra ?_)
        exact ⟨_,⟨rfl,rfl⟩,by (exact Ents.au)⟩
      | false =>
        rw [show sideW pts fcs p=if windN pts fcs p≠0 then (2,0) else (0,0) by unfold sideW;rw [hfl,hfar,hon];rfl,show wndW pts fcs p=(windN pts fcs p,0) by unfold wndW;rw [hfl,hfar,hon];rfl]
        generalize windN pts fcs p=n
        by_cases hw:n=0
        · rw [if_neg (fun h=>h hw)]
          (repeat' first|(refine Ka ?_;first|refine Kb ?_|(refine Kc ?_;intro _))|refine Kd ?_|refine Ke ?_|refine Kf ?_|refine Kg rfl ?_|refine Kh ?_)
          (refine Post.ra ?_)
          exact ⟨_,⟨rfl,rfl⟩,by (exact Ents.au)⟩
        · rw [if_pos hw]
          (repeat' first|(refine Ka ?_;first|refine Kb ?_|(refine Kc ?_;intro _))|refine Kd ?_|refine Ke ?_|refine Kf ?_|refine Kg rfl ?_|refine Kh ?_)
          (refine Post.ra ?_)
          exact ⟨_,⟨rfl,rfl⟩,by (exact Ents.au)⟩
  · rw [show sideW pts fcs p=(0,350) from if_pos hfl,show wndW pts fcs p=(0,350) from if_pos hfl]
    (repeat' first|(refine Ka ?_;first|refine Kb ?_|(refine Kc ?_;intro _))|refine Kd ?_|refine Ke ?_|refine Kf ?_|refine Kg rfl ?_|refine Kh ?_)
    (refine Post.ra ?_)
    exact ⟨_,⟨rfl,rfl⟩,by (exact Ents.au)⟩
end Go.Proofs.YtgapnfaakdjpaaaGreatDoor

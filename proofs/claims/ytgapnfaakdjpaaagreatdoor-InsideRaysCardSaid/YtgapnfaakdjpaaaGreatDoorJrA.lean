/- Walks: the reference of the chapter on insides: where a ray meets a face, and a mesh. -/
import Derived.Test.YtgapnfaakdjpaaaGreatDoorJr7
import Derived.Test.YtgapnfaakdjpaaaGreatDoorIxa
namespace Go.Sx
open Go
theorem metR_split {y:Bool} {a b c d:V3}:metR y a b c d=if (nrm a b c).dot d≠0 then ((thrM a b c (nrm a b c) d).bind fun t=>if y=true∨¬ 1 < t then some t else none)
    else if (nrm a b c).dot a≠0 then none else alongM (path0 y) (axR (nrm a b c)) (nrm a b c) a b c d:=by
  unfold metR thrM alongM
  by_cases h:(nrm a b c).dot d≠0
  · rw [if_pos h,if_pos h]
    by_cases hm:(det3 d a b < 0∨det3 d b c < 0∨det3 d c a < 0)∧(0 < det3 d a b∨0 < det3 d b c∨0 < det3 d c a)
    · rw [if_pos hm,if_pos hm];rfl
    · rw [if_neg hm,if_neg hm]
      by_cases hq:0≤qI ((nrm a b c).dot a) ((nrm a b c).dot d)
      · rw [if_pos (c:=0≤qI ((nrm a b c).dot a) ((nrm a b c).dot d)) hq,Option.bind_some]
        by_cases hy:y=true∨¬ 1 < qI ((nrm a b c).dot a) ((nrm a b c).dot d)
        · rw [if_pos ⟨hq,hy⟩,if_pos hy]
        · rw [if_neg (fun k=>hy k.2),if_neg hy]
      · rw [if_neg (fun k=>hq k.1),if_neg hq];rfl
  · rw [if_neg h,if_neg h]
theorem thrM_fit {a b c n v:V3} {t:Rat} (ha:a.in 400000) (hn:n.in 320000000000) (hv:v.in 400000) (h0:n.dot v≠0) (h:thrM a b c n v=some t):Fit 19 t:=by
  have b1:-9223372036854775807≤n.dot a∧n.dot a≤9223372036854775807:=by have:=dot_in3 (by decide) (by decide) hn ha;simp only [V3.dot];omega
  have b2:-9223372036854775807≤n.dot v∧n.dot v≤9223372036854775807:=by have:=dot_in3 (by decide) (by decide) hn hv;simp only [V3.dot];omega
  unfold thrM at h
  split at h
  · cases h
  · split at h
    · rw [← Option.some.inj h];exact fit_qI (by omega) (by omega) h0
    · cases h
theorem metR_fit {y:Bool} {a b c d:V3} {t:Rat} (hn:nrm a b c≠V3.zero) (ha:a.in 400000) (hb:b.in 400000) (hc:c.in 400000) (hd:d.in 400000) (hd0:d≠V3.zero) (h:metR y a b c d=some t):Fit 19 t:=by
  rw [← met_eq y hn hd0] at h
  exact metP_fit ha hb hc hd hd0 h
def bestFc:Option (Rat × Nat)→Int
  | none=>-1
  | some (_,j)=>(j:Int)
def bestCl:Option (Rat × Nat)→List Value
  | none=>[.string ⟨#[]⟩,.string ⟨#[]⟩]
  | some (t,_)=>[.string ⟨(tN t).toArray⟩,.string ⟨(tD t).toArray⟩]
end Go.Sx
namespace Go.Proofs.YtgapnfaakdjpaaaGreatDoor
open Go Go.Sx
variable {w0:World} {As:List Ent} {pv fv:Value} {pts fcs:List V3}
set_option maxRecDepth 100000 in
set_option maxHeartbeats 8000000 in
theorem rmeets_ok {k:Nat} {f p q:V3} {y:Bool} (hf:fcs[k]?=some f) (hw:isWrong pts.length f=false) (hs:Seeable pts fcs p) (hq:q.in 200000) [RdIn As fv V3 cV3 fcs] [RdIn As pv V3 cV3 pts] :
    CallsS Tryz.prog w0 53 [.agg #[pv,fv],.int .i64 (k:Int),p.val,q.val,.bool y] As (MetR As (metR y (relV pts p f.x) (relV pts p f.y) (relV pts p f.z) (q.sub p))):=by
  have np:=hs.at_
  obtain ⟨g1,g2,g3⟩:=hs.rel (List.mem_of_getElem? hf)
  have hd:(q.sub p).in 400000:=sub_in hq np
  have hfar:=hs.pts
  have hn:(normal pts f).in 320000000000:=normal_in hfar f
  have hax:=fun Bs [RdIn Bs fv V3 cV3 fcs] [RdIn Bs pv V3 cV3 pts]=>raxis_ok (w0:=w0) (As:=Bs) (pv:=pv) (fv:=fv) (k:=k) hf hw hfar
  have hno:=fun Bs [RdIn Bs fv V3 cV3 fcs] [RdIn Bs pv V3 cV3 pts]=>normalR_ok (w0:=w0) (As:=Bs) (pv:=pv) (fv:=fv) (n:=k) hf hw hfar
  have hmi:=fun Bs=>minusV35_ok (w0:=w0) (As:=Bs) (p:=q) (q:=p) hq np (by decide)
  refine CallsS.of_tri Tryz.func53 rfl Tryz.ntmps53 rfl ?_
  show Tri _ _ _ _ (env0 0 [.agg #[pv,fv],.int .i64 (k:Int),.agg #[.int .i64 p.x,.int .i64 p.y,.int .i64 p.z],.agg #[.int .i64 q.x,.int .i64 q.y,.int .i64 q.z],.bool y]) _ _
  rw [metR_split,nrm_rel]
  (repeat' first|(refine Ka ?_;first|refine Kb ?_|(refine Kc ?_;intro _))|refine Kd ?_|refine Kh ?_)
  refine TL.callv rfl rfl rfl rfl (rcorners_ok (k:=k) (p:=p) hf hs) ?_
  rintro _ _ ⟨rfl,rfl⟩
  clear hs hfar
  generalize relV pts p f.x=a at *
  generalize relV pts p f.y=b at *
  generalize relV pts p f.z=c at *
  generalize normal pts f=n at *
  generalize q.sub p=v at *
  show TL _ _ _ _ _ ((_,.tuple #[.agg #[.int .i64 a.x,.int .i64 a.y,.int .i64 a.z],.agg #[.int .i64 b.x,.int .i64 b.y,.int .i64 b.z],.agg #[.int .i64 c.x,.int .i64 c.y,.int .i64 c.z]])::_) _ _
  (repeat' first|(refine Ka ?_;first|refine Kb ?_|(refine Kc ?_;intro _))|refine Kd ?_|refine Kh ?_)
  rename_i b5 b7 b8 b10 b12 b13 b14
  refine Tri.mid (fun e' As'=>∃ b15 b16,e'=[(1,.int .i64 (k:Int)),(4,.bool y),(5,.pointer (some ⟨b5,0,none⟩)),(10,.pointer (some ⟨b10,0,none⟩)),(12,.pointer (some ⟨b12,0,none⟩)),(13,.pointer (some ⟨b13,0,none⟩)),(14,.pointer (some ⟨b14,0,none⟩)),(15,.pointer (some ⟨b15,0,none⟩)),(16,.pointer (some ⟨b16,0,none⟩))] ∧
    As'=.cl b16 [.int .i64 v.x,.int .i64 v.y,.int .i64 v.z] 31::.cl b15 [.int .i64 n.x,.int .i64 n.y,.int .i64 n.z] 31::.cl b14 [.int .i64 c.x,.int .i64 c.y,.int .i64 c.z] 31::.cl b13 [.int .i64 b.x,.int .i64 b.y,.int .i64 b.z] 31::.cl b12 [.int .i64 a.x,.int .i64 a.y,.int .i64 a.z] 31::.cl b10 [.string ⟨#[]⟩,.string ⟨#[]⟩] 49::.cl b5 [pv,fv] 34::As) ?_ ?_
  · refine Tri.dw (.cl b5 [pv,fv] 34::.cl b8 [.int .i64 q.x,.int .i64 q.y,.int .i64 q.z] 31::.cl b7 [.int .i64 p.x,.int .i64 p.y,.int .i64 p.z] 31::As) [] (.take 0 (.take 1 (.take 3 (.take 4 (.all [(2,.all [(5,.all [(6,.all [(7,.all [(8,.all [(9,.done)])])]),(7,.all [(6,.all [(8,.all [(9,.done)])])])]),(6,.all [(5,.all [(7,.all [(8,.all [(9,.done)])])]),(7,.all [(5,.all [(8,.all [(9,.done)])])])]),(7,.all [(5,.all [(6,.all [(8,.all [(9,.done)])])]),(6,.all [(5,.all [(8,.all [(9,.done)])])])])]),(6,.all [(2,.all [(5,.all [(7,.all [(8,.all [(9,.done)])])]),(7,.all [(5,.all [(8,.all [(9,.done)])])])]),(7,.all [(2,.all [(5,.all [(8,.all [(9,.done)])])])])]),(7,.all [(2,.all [(5,.all [(6,.all [(8,.all [(9,.done)])])]),(6,.all [(5,.all [(8,.all [(9,.done)])])])]),(6,.all [(2,.all [(5,.all [(8,.all [(9,.done)])])])])])]))))) ?_
    (repeat' first|(refine Ka ?_;first|refine Kb ?_|(refine Kc ?_;intro _))|refine Kd ?_|(refine Ki ?_;refine Kj ?_)|exact Kk|refine Kl ?_ ?_|(refine Km ?_;first|refine Kn ?_|(refine Ko ?_;intro _))|(refine Kp ?_;first|refine Kq ?_|refine Kr ?_)|refine Kh ?_)
    repeat' (first|(refine T1.callv rfl rfl rfl rfl rfl (hno _) ?_;rintro _ _ ⟨rfl,rfl⟩;show TC _ _ _ _ _ _ _ ((_,.agg #[.int .i64 n.x,.int .i64 n.y,.int .i64 n.z])::_) _ _;(repeat' first|(refine Ka ?_;first|refine Kb ?_|(refine Kc ?_;intro _))|refine Kd ?_|(refine Ki ?_;refine Kj ?_)|exact Kk|refine Kl ?_ ?_|(refine Km ?_;first|refine Kn ?_|(refine Ko ?_;intro _))|(refine Kp ?_;first|refine Kq ?_|refine Kr ?_)|refine Kh ?_))|(refine T1.callv rfl rfl rfl rfl rfl (hmi _) ?_;rintro _ _ ⟨rfl,rfl⟩;show TC _ _ _ _ _ _ _ ((_,.agg #[.int .i64 v.x,.int .i64 v.y,.int .i64 v.z])::_) _ _;(repeat' first|(refine Ka ?_;first|refine Kb ?_|(refine Kc ?_;intro _))|refine Kd ?_|(refine Ki ?_;refine Kj ?_)|exact Kk|refine Kl ?_ ?_|(refine Km ?_;first|refine Kn ?_|(refine Ko ?_;intro _))|(refine Kp ?_;first|refine Kq ?_|refine Kr ?_)|refine Kh ?_)))
    all_goals exact Post.cut _ _ ⟨_,_,rfl,rfl⟩ (by (exact Sub.au)) (by (exact Ents.au))
  rintro _ _ ⟨b15,b16,rfl,rfl⟩
  clear hno hmi
  have hd1:=fun Bs=>dotR_ok (w0:=w0) (As:=Bs) hn hd (by decide) (by decide) (by decide)
  have hd2:=fun Bs=>dotR_ok (w0:=w0) (As:=Bs) hn g1 (by decide) (by decide) (by decide)
  (repeat' first|(refine Ka ?_;first|refine Kb ?_|(refine Kc ?_;intro _))|refine Kd ?_|(refine Ki ?_;refine Kj ?_)|exact Kk|refine Kl ?_ ?_|(refine Km ?_;first|refine Kn ?_|(refine Ko ?_;intro _))|(refine Kp ?_;first|refine Kq ?_|refine Kr ?_)|refine Kh ?_)
  refine TL.callv rfl rfl rfl rfl (hd1 _) ?_
  rintro _ _ ⟨rfl,rfl⟩
  by_cases h0:n.dot v≠0
  · rw [if_pos h0]
    have htf:=fun t=>thrM_fit (t:=t) (a:=a) (b:=b) (c:=c) g1 hn hd h0
    have hth:=fun Bs=>rthrough_ok (w0:=w0) (As:=Bs) g1 g2 g3 hn hd h0
    generalize thrM a b c n v=o at *
    generalize n.dot v=dv at *
    clear hax hd1 hd2
    (repeat' first|(refine Ka ?_;first|refine Kb ?_|(refine Kc ?_;intro _))|refine Kd ?_|(refine Ki ?_;refine Kj ?_)|exact Kk|refine Kl ?_ ?_|(refine Km ?_;first|refine Kn ?_|(refine Ko ?_;intro _))|(refine Kp ?_;first|refine Kq ?_|refine Kr ?_)|refine Kh ?_)
    refine TL.callv rfl rfl rfl rfl (hth _) ?_
    rintro _ _ ⟨⟨x,z,rfl,hxz⟩,rfl⟩
    (repeat' first|(refine Ka ?_;first|refine Kb ?_|(refine Kc ?_;intro _))|refine Kd ?_|(refine Ki ?_;refine Kj ?_)|exact Kk|refine Kl ?_ ?_|(refine Km ?_;first|refine Kn ?_|(refine Ko ?_;intro _))|(refine Kp ?_;first|refine Kq ?_|refine Kr ?_)|refine Kh ?_)
    refine TL.callv rfl rfl rfl rfl (ofRef_ok (n:=1) (d:=1) (by decide) (by decide) (by decide)) ?_
    rw [show qI 1 1=1 by decide +kernel]
    rintro _ _ ⟨rfl,rfl⟩
    (repeat' first|(refine Ka ?_;first|refine Kb ?_|(refine Kc ?_;intro _))|refine Kd ?_|refine Kh ?_)
    rename_i b17 b19
    refine Tri.dw [.cl b17 [.string ⟨x.toArray⟩,.string ⟨z.toArray⟩] 49,.cl b19 [.string ⟨(tN 1).toArray⟩,.string ⟨(tD 1).toArray⟩] 49] [] (.take 0 (.take 1 (.take 2 (.take 3 (.take 4 (.take 5 (.take 6 (.all [(7,.take 8 (.take 9 (.take 10 (.all [(11,.take 12 (.done))]))))])))))))) ?_
    (repeat' first|(refine Ka ?_;first|refine Kb ?_|(refine Kc ?_;intro _))|refine Kd ?_|(refine Ki ?_;refine Kj ?_)|exact Kk|refine Kl ?_ ?_|(refine Km ?_;first|refine Kn ?_|(refine Ko ?_;intro _))|(refine Kp ?_;first|refine Kq ?_|refine Kr ?_)|refine Kh ?_)
    cases o with
    | none =>
      rw [show (none:Option Rat).isSome=false from rfl]
      (repeat' first|(refine Ka ?_;first|refine Kb ?_|(refine Kc ?_;intro _))|refine Kd ?_|(refine Ki ?_;refine Kj ?_)|exact Kk|refine Kl ?_ ?_|(refine Km ?_;first|refine Kn ?_|(refine Ko ?_;intro _))|(refine Kp ?_;first|refine Kq ?_|refine Kr ?_)|refine Kh ?_)
      (refine Post.ra ?_)
      exact ⟨_,MetR.none (x:=x) (y:=z),by (exact Ents.au)⟩
    | some t =>
      obtain ⟨rfl,rfl⟩:=hxz t rfl
      rw [show (some t:Option Rat).isSome=true from rfl,Option.bind_some]
      have hft:=htf t rfl
      cases y with
      | true =>
        rw [if_pos (.inl rfl)]
        (repeat' first|(refine Ka ?_;first|refine Kb ?_|(refine Kc ?_;intro _))|refine Kd ?_|(refine Ki ?_;refine Kj ?_)|exact Kk|refine Kl ?_ ?_|(refine Km ?_;first|refine Kn ?_|(refine Ko ?_;intro _))|(refine Kp ?_;first|refine Kq ?_|refine Kr ?_)|refine Kh ?_)
        (refine Post.ra ?_)
        exact ⟨_,MetR.some (t:=t),by (exact Ents.au)⟩
      | false =>
        (repeat' first|(refine Ka ?_;first|refine Kb ?_|(refine Kc ?_;intro _))|refine Kd ?_|(refine Ki ?_;refine Kj ?_)|exact Kk|refine Kl ?_ ?_|(refine Km ?_;first|refine Kn ?_|(refine Ko ?_;intro _))|(refine Kp ?_;first|refine Kq ?_|refine Kr ?_)|refine Kh ?_)
        refine T1.callv rfl rfl rfl rfl rfl (less36_ok fit1 hft) ?_
        rintro _ _ ⟨rfl,rfl⟩
        by_cases hl:1 < t
        · rw [decide_eq_true hl,if_neg (by rintro (h|h);cases h;exact h hl)]
          (repeat' first|(refine Ka ?_;first|refine Kb ?_|(refine Kc ?_;intro _))|refine Kd ?_|(refine Ki ?_;refine Kj ?_)|exact Kk|refine Kl ?_ ?_|(refine Km ?_;first|refine Kn ?_|(refine Ko ?_;intro _))|(refine Kp ?_;first|refine Kq ?_|refine Kr ?_)|refine Kh ?_)
          (refine Post.ra ?_)
          exact ⟨_,MetR.none (x:=tN t) (y:=tD t),by (exact Ents.au)⟩
        · rw [decide_eq_false hl,if_pos (.inr hl)]
          (repeat' first|(refine Ka ?_;first|refine Kb ?_|(refine Kc ?_;intro _))|refine Kd ?_|(refine Ki ?_;refine Kj ?_)|exact Kk|refine Kl ?_ ?_|(refine Km ?_;first|refine Kn ?_|(refine Ko ?_;intro _))|(refine Kp ?_;first|refine Kq ?_|refine Kr ?_)|refine Kh ?_)
          (refine Post.ra ?_)
          exact ⟨_,MetR.some (t:=t),by (exact Ents.au)⟩
  · rw [if_neg h0]
    have h0:n.dot v=0:=Classical.byContradiction h0
    rw [h0]
    (repeat' first|(refine Ka ?_;first|refine Kb ?_|(refine Kc ?_;intro _))|refine Kd ?_|(refine Ki ?_;refine Kj ?_)|exact Kk|refine Kl ?_ ?_|(refine Km ?_;first|refine Kn ?_|(refine Ko ?_;intro _))|(refine Kp ?_;first|refine Kq ?_|refine Kr ?_)|refine Kh ?_)
    refine TL.callv rfl rfl rfl rfl (hd2 _) ?_
    rintro _ _ ⟨rfl,rfl⟩
    by_cases h1:n.dot a≠0
    · rw [if_pos h1]
      generalize n.dot a=da at *
      clear hax hd1 hd2
      (repeat' first|(refine Ka ?_;first|refine Kb ?_|(refine Kc ?_;intro _))|refine Kd ?_|refine Kh ?_)
      (refine Post.ra ?_)
      exact ⟨_,MetR.none (x:=[]) (y:=[]),by (exact Ents.au)⟩
    · rw [if_neg h1]
      have h1:n.dot a=0:=Classical.byContradiction h1
      rw [h1]
      clear hd1 hd2
      (repeat' first|(refine Ka ?_;first|refine Kb ?_|(refine Kc ?_;intro _))|refine Kd ?_|refine Kh ?_)
      refine TL.callv rfl rfl rfl rfl (hax _) ?_
      rintro _ _ ⟨rfl,rfl⟩
      have hk3:axR n < 3:=by rcases axR_cases n with hk|hk|hk<;>omega
      have hka:=fun Bs=>ralong_ok (w0:=w0) (As:=Bs) (n:=n) (y:=y) hk3 g1 g2 g3 hd
      have hks:∀ k:Nat,k=axR n→((k=0∧n.proj k=n.x)∨(k=1∧n.proj k=n.y)∨(k=2∧n.proj k=n.z)):=by
        intro k hk
        have:k=0∨k=1∨k=2:=by omega
        rcases this with rfl|rfl|rfl
        · exact .inl ⟨rfl,rfl⟩
        · exact .inr (.inl ⟨rfl,rfl⟩)
        · exact .inr (.inr ⟨rfl,rfl⟩)
      have hks:=hks _ rfl
      clear hax hk3
      generalize axR n=κ at *
      generalize alongM (path0 y) κ n a b c v=o at hka ⊢
      generalize n.proj κ=π at *
      rcases hks with ⟨rfl,rfl⟩|⟨rfl,rfl⟩|⟨rfl,rfl⟩
      all_goals
        (repeat' first|(refine Ka ?_;first|refine Kb ?_|(refine Kc ?_;intro _))|refine Kd ?_|(refine Ki ?_;refine Kj ?_)|exact Kk|refine Kl ?_ ?_|(refine Km ?_;first|refine Kn ?_|(refine Ko ?_;intro _))|(refine Kp ?_;first|refine Kq ?_|refine Kr ?_)|refine Kh ?_)
        refine Tri.dw [.cl b12 [.int .i64 a.x,.int .i64 a.y,.int .i64 a.z] 31,.cl b13 [.int .i64 b.x,.int .i64 b.y,.int .i64 b.z] 31,.cl b14 [.int .i64 c.x,.int .i64 c.y,.int .i64 c.z] 31,.cl b15 [.int .i64 n.x,.int .i64 n.y,.int .i64 n.z] 31,.cl b16 [.int .i64 v.x,.int .i64 v.y,.int .i64 v.z] 31] [] (.take 0 (.take 1 (.take 2 (.take 3 (.take 4 (.take 5 (.take 6 (.take 7 (.take 9 (.take 10 (.all [(8,.all [(11,.take 12 (.take 13 (.all [(14,.take 15 (.done))])))])]))))))))))) ?_
        (repeat' first|(refine Ka ?_;first|refine Kb ?_|(refine Kc ?_;intro _))|refine Kd ?_|(refine Ki ?_;refine Kj ?_)|exact Kk|refine Kl ?_ ?_|(refine Km ?_;first|refine Kn ?_|(refine Ko ?_;intro _))|(refine Kp ?_;first|refine Kq ?_|refine Kr ?_)|refine Kh ?_)
        refine T1.call rfl rfl rfl rfl rsign_ok ?_
        rintro _ _ ⟨rfl,rfl⟩
        (repeat' first|(refine Ka ?_;first|refine Kb ?_|(refine Kc ?_;intro _))|refine Kd ?_|(refine Ki ?_;refine Kj ?_)|exact Kk|refine Kl ?_ ?_|(refine Km ?_;first|refine Kn ?_|(refine Ko ?_;intro _))|(refine Kp ?_;first|refine Kq ?_|refine Kr ?_)|refine Kh ?_)
        refine T1.callv rfl rfl rfl rfl rfl (hka _) ?_
        rintro _ _ ⟨⟨x,z,rfl,hxz⟩,rfl⟩
        (repeat' first|(refine Ka ?_;first|refine Kb ?_|(refine Kc ?_;intro _))|refine Kd ?_|(refine Ki ?_;refine Kj ?_)|exact Kk|refine Kl ?_ ?_|(refine Km ?_;first|refine Kn ?_|(refine Ko ?_;intro _))|(refine Kp ?_;first|refine Kq ?_|refine Kr ?_)|refine Kh ?_)
        (refine Post.ra ?_)
        exact ⟨_,⟨⟨x,z,rfl,hxz⟩,rfl⟩,by (exact Ents.au)⟩
end Go.Proofs.YtgapnfaakdjpaaaGreatDoor
namespace Go.Proofs.YtgapnfaakdjpaaaGreatDoor
open Go Go.Sx
variable {w0:World} {As:List Ent} {pv fv:Value} {pts fcs:List V3}
set_option maxRecDepth 100000 in
set_option maxHeartbeats 8000000 in
theorem rRay_ok {p q:V3} {y:Bool} [RdIn As fv V3 cV3 fcs] [RdIn As pv V3 cV3 pts] :
    CallsS Tryz.prog w0 19 [.agg #[pv,fv],p.val,q.val,.bool y] As fun r Bs=>r=rayR (rayW pts fcs p q y)∧Bs=As:=by
  refine CallsS.of_tri Tryz.func19 rfl Tryz.ntmps19 rfl ?_
  show Tri _ _ _ _ (env0 0 [.agg #[pv,fv],.agg #[.int .i64 p.x,.int .i64 p.y,.int .i64 p.z],.agg #[.int .i64 q.x,.int .i64 q.y,.int .i64 q.z],.bool y]) _ _
  (repeat' first|(refine Ka ?_;first|refine Kb ?_|(refine Kc ?_;intro _))|refine Kd ?_|refine Kh ?_)
  rename_i b4 b5 b6 b8
  refine TL.callv rfl rfl rfl rfl (rchecked_ok (pv:=pv) (fv:=fv) (pts:=pts) (fcs:=fcs) (p:=p)) ?_
  rintro _ _ ⟨rfl,rfl⟩
  by_cases hfl:(flawM pts fcs).1=0
  · have hg : Sx.Good pts fcs:=okM_good.1 hfl
    cases hfar:isFar p with
    | true =>
      rw [show chkW pts fcs p=2 by unfold chkW;rw [hfl,hfar];rfl,show rayW pts fcs p q y=.inl 2 by unfold rayW;rw [hfl,hfar];rfl]
      (repeat' first|(refine Ka ?_;first|refine Kb ?_|(refine Kc ?_;intro _))|refine Kd ?_|refine Kh ?_)
      (refine Post.ra ?_)
      exact ⟨_,⟨rfl,rfl⟩,by (exact Ents.au)⟩
    | false =>
      rw [show chkW pts fcs p=0 by unfold chkW;rw [hfl,hfar];rfl]
      have hs:=hg.see hfar
      (repeat' first|(refine Ka ?_;first|refine Kb ?_|(refine Kc ?_;intro _))|refine Kd ?_|refine Kh ?_)
      refine TL.callv rfl rfl rfl rfl (rright_ok (p:=q)) ?_
      rintro _ _ ⟨rfl,rfl⟩
      cases hfaq:isFar q with
      | true =>
        rw [show rayW pts fcs p q y=.inl 2 by unfold rayW;rw [if_neg (fun h=>h hfl),if_pos (.inr (.inl hfaq))]]
        (repeat' first|(refine Ka ?_;first|refine Kb ?_|(refine Kc ?_;intro _))|refine Kd ?_|refine Kh ?_)
        (refine Post.ra ?_)
        exact ⟨_,⟨rfl,rfl⟩,by (exact Ents.au)⟩
      | false =>
        by_cases hpq:p=q
        · rw [show rayW pts fcs p q y=.inl 2 by unfold rayW;rw [if_neg (fun h=>h hfl),if_pos (.inr (.inr hpq))]]
          subst hpq
          (repeat' first|(refine Ka ?_;first|refine Kb ?_|(refine Kc ?_;intro _))|refine Kd ?_|refine Kh ?_)
          rw [show decide ((⟨p.x,p.y,p.z⟩:V3)=⟨p.x,p.y,p.z⟩)=true from decide_eq_true rfl]
          (repeat' first|(refine Ka ?_;first|refine Kb ?_|(refine Kc ?_;intro _))|refine Kd ?_|refine Kh ?_)
          (refine Post.ra ?_)
          exact ⟨_,⟨rfl,rfl⟩,by (exact Ents.au)⟩
        · have hne:((⟨p.x,p.y,p.z⟩:V3)=⟨q.x,q.y,q.z⟩)=False:=eq_false hpq
          have hrw:rayW pts fcs p q y=(match rayM metP pts fcs p q y with|none=>Sum.inl 4|some r=>Sum.inr r):=by
            unfold rayW;rw [if_neg (fun h=>h hfl),if_neg (by rw [hfar,hfaq];simp [hpq])];cases rayM metP pts fcs p q y<;>rfl
          rw [hrw,rayM_eq hg hpq]
          clear hrw
          have hlF:=hs.lenF
          have hqi:=far_in hfaq
          have hd:(q.sub p).in 400000:=sub_in hqi (far_in hfar)
          have hd0:q.sub p≠V3.zero:=fun h=>hpq (by
            rw [V3.eq_iff]
            simp only [V3.sub,V3.zero,V3.mk.injEq] at h
            omega)
          obtain ⟨g,hgd⟩:∃ g:V3→Option Rat,g=(fun f=>metR y (relV pts p f.x) (relV pts p f.y) (relV pts p f.z) (q.sub p)):=⟨_,rfl⟩
          have hfg:∀ f∈fcs,∀ t,g f=some t→Fit 19 t:=fun f hf t h=>by
            obtain ⟨n1,n2,n3⟩:=hs.rel hf
            rw [hgd] at h
            exact metR_fit (hg.nzR p hf) n1 n2 n3 hd hd0 h
          have hfit:∀ k,k≤fcs.length→bestFit (firstK g fcs k):=by
            intro k
            induction k with
            | zero=>intro _;exact trivial
            | succ k ih =>
              intro hk
              obtain ⟨f,hf⟩:∃ f,fcs[k]?=some f:=⟨_,List.getElem?_eq_getElem (by omega)⟩
              unfold firstK
              rw [hf,Option.bind_some]
              exact bestS_fit (ih (by omega)) fun t h=>hfg f (List.mem_of_getElem? hf) t h
          rw [show rayM metR pts fcs p q y=firstK g fcs fcs.length by rw [hgd];rfl]
          (repeat' first|(refine Ka ?_;first|refine Kb ?_|(refine Kc ?_;intro _))|refine Kd ?_|refine Kh ?_)
          rw [show decide ((⟨p.x,p.y,p.z⟩:V3)=⟨q.x,q.y,q.z⟩)=false from decide_eq_false hpq]
          (repeat' first|(refine Ka ?_;first|refine Kb ?_|(refine Kc ?_;intro _))|refine Kd ?_|refine Kh ?_)
          rename_i b12
          refine Tri.loop (ι:=Nat) (fun k=>k≤fcs.length) (fun k=>fcs.length - k)
            (fun k=>[(3,.bool y),(4,.pointer (some ⟨b4,0,none⟩)),(5,.pointer (some ⟨b5,0,none⟩)),(6,.pointer (some ⟨b6,0,none⟩)),(8,.pointer (some ⟨b8,0,none⟩)),(12,.pointer (some ⟨b12,0,none⟩)),(13,.int .i64 (bestFc (firstK g fcs k))),(14,.int .i64 (k:Int))])
            (fun k=>.cl b12 (bestCl (firstK g fcs k)) 49::.cl b8 [.string ⟨#[]⟩,.string ⟨#[]⟩] 49::.cl b4 [pv,fv] 34::.cl b5 [.int .i64 p.x,.int .i64 p.y,.int .i64 p.z] 31::.cl b6 [.int .i64 q.x,.int .i64 q.y,.int .i64 q.z] 31::As) 0 (by omega) (by show Sub _ [_,_,_,_,_,_,(13,.int .i64 (-1)),_];(exact Sub.au)) (by show Ents _ (.cl b12 [.string ⟨#[]⟩,.string ⟨#[]⟩] _::_);(exact Ents.au)) ?_
          intro k hk
          have hb:=hfit k hk
          have hK:∀ f,fcs[k]?=some f→firstK g fcs (k+1)=bestS (firstK g fcs k) k (g f):=fun f hf=>by
            show bestS (firstK g fcs k) k ((fcs[k]?).bind g)=_
            rw [hf,Option.bind_some]
          have hend:k=fcs.length→firstK g fcs fcs.length=firstK g fcs k:=fun h=>by rw [h]
          have hme:=fun f (hf:fcs[k]?=some f) Bs [RdIn Bs fv V3 cV3 fcs] [RdIn Bs pv V3 cV3 pts]=>rmeets_ok (w0:=w0) (As:=Bs) (pv:=pv) (fv:=fv) (y:=y) hf (hg.right (List.mem_of_getElem? hf)) hs hqi
          have hgf:∀ f:V3,metR y (relV pts p f.x) (relV pts p f.y) (relV pts p f.z) (q.sub p)=g f:=fun f=>by rw [hgd]
          simp only [hgf] at hme
          generalize firstK g fcs k=B at *
          clear hgf hgd hfit hne hd hd0 hqi
          cases B with
          | none =>
            show Tri _ _ _ _ [(3,_),(4,_),(5,_),(6,_),(8,_),(12,_),(13,.int .i64 (-1)),(14,.int .i64 (k:Int))] (.cl b12 [.string ⟨#[]⟩,.string ⟨#[]⟩] _::_) _
            (repeat' first|(refine Ka ?_;first|refine Kb ?_|(refine Kc ?_;intro _))|refine Kd ?_|refine Kh ?_)
            ((show Tri _ _ _ (.cond _ _ _) _ _ _;first|refine Tri.condP rfl (fun hc=>?_) (fun hc=>?_)|refine Tri.condN rfl (fun hc=>?_) (fun hc=>?_)))
            · obtain ⟨f,hf⟩:∃ f,fcs[k]?=some f:=⟨_,List.getElem?_eq_getElem (by omega)⟩
              have hK:=hK f hf
              have hme:=hme f hf
              have hfo:=hfg f (List.mem_of_getElem? hf)
              generalize g f=o at *
              clear hfg
              (repeat' first|(refine Ka ?_;first|refine Kb ?_|(refine Kc ?_;intro _))|refine Kd ?_|refine Kh ?_)
              refine TL.callv rfl rfl rfl rfl (hme _) ?_
              rintro _ _ ⟨⟨x,z,rfl,hxz⟩,rfl⟩
              clear hme
              cases o with
              | none =>
                have hK':firstK g fcs (k+1)=none:=hK
                rw [show (none:Option Rat).isSome=false from rfl]
                (repeat' first|(refine Ka ?_;first|refine Kb ?_|(refine Kc ?_;intro _))|refine Kd ?_|refine Kh ?_)
                exact Post.round (k+1) (by omega) (by omega) (by rw [hK'];show Sub _ [_,_,_,_,_,_,(13,.int .i64 (-1)),_];(exact Sub.au)) (by rw [hK'];show Ents _ (.cl b12 [.string ⟨#[]⟩,.string ⟨#[]⟩] _::_);(exact Ents.au))
              | some t =>
                obtain ⟨rfl,rfl⟩:=hxz t rfl
                have hK':firstK g fcs (k+1)=some (t,k):=hK
                rw [show (some t:Option Rat).isSome=true from rfl]
                (repeat' first|(refine Ka ?_;first|refine Kb ?_|(refine Kc ?_;intro _))|refine Kd ?_|refine Kh ?_)
                exact Post.round (k+1) (by omega) (by omega) (by rw [hK'];show Sub _ [_,_,_,_,_,_,(13,.int .i64 (k:Int)),_];(exact Sub.au)) (by rw [hK'];show Ents _ (.cl b12 [.string ⟨(tN t).toArray⟩,.string ⟨(tD t).toArray⟩] _::_);(exact Ents.au))
            · rw [hend (by omega)]
              (repeat' first|(refine Ka ?_;first|refine Kb ?_|(refine Kc ?_;intro _))|refine Kd ?_|refine Kh ?_)
              (refine Post.ra ?_)
              exact ⟨_,⟨rfl,rfl⟩,by (exact Ents.au)⟩
          | some b =>
            obtain ⟨u,j⟩:=b
            show Tri _ _ _ _ [(3,_),(4,_),(5,_),(6,_),(8,_),(12,_),(13,.int .i64 (j:Int)),(14,.int .i64 (k:Int))] (.cl b12 [.string ⟨(tN u).toArray⟩,.string ⟨(tD u).toArray⟩] _::_) _
            (repeat' first|(refine Ka ?_;first|refine Kb ?_|(refine Kc ?_;intro _))|refine Kd ?_|refine Kh ?_)
            ((show Tri _ _ _ (.cond _ _ _) _ _ _;first|refine Tri.condP rfl (fun hc=>?_) (fun hc=>?_)|refine Tri.condN rfl (fun hc=>?_) (fun hc=>?_)))
            · obtain ⟨f,hf⟩:∃ f,fcs[k]?=some f:=⟨_,List.getElem?_eq_getElem (by omega)⟩
              have hK:=hK f hf
              have hme:=hme f hf
              have hfo:=hfg f (List.mem_of_getElem? hf)
              generalize g f=o at *
              clear hfg
              (repeat' first|(refine Ka ?_;first|refine Kb ?_|(refine Kc ?_;intro _))|refine Kd ?_|refine Kh ?_)
              refine TL.callv rfl rfl rfl rfl (hme _) ?_
              rintro _ _ ⟨⟨x,z,rfl,hxz⟩,rfl⟩
              clear hme
              cases o with
              | none =>
                have hK':firstK g fcs (k+1)=some (u,j):=hK
                rw [show (none:Option Rat).isSome=false from rfl]
                (repeat' first|(refine Ka ?_;first|refine Kb ?_|(refine Kc ?_;intro _))|refine Kd ?_|refine Kh ?_)
                exact Post.round (k+1) (by omega) (by omega) (by rw [hK'];show Sub _ [_,_,_,_,_,_,(13,.int .i64 (j:Int)),_];(exact Sub.au)) (by rw [hK'];show Ents _ (.cl b12 [.string ⟨(tN u).toArray⟩,.string ⟨(tD u).toArray⟩] _::_);(exact Ents.au))
              | some t =>
                obtain ⟨rfl,rfl⟩:=hxz t rfl
                have hft:=hfo t rfl
                have hK':firstK g fcs (k+1)=if t < u then some (t,k) else some (u,j):=hK
                rw [show (some t:Option Rat).isSome=true from rfl]
                (repeat' first|(refine Ka ?_;first|refine Kb ?_|(refine Kc ?_;intro _))|refine Kd ?_|refine Kh ?_)
                refine TL.callv rfl rfl rfl rfl (less36_ok hft hb) ?_
                rintro _ _ ⟨rfl,rfl⟩
                by_cases hl:t < u
                · rw [decide_eq_true hl]
                  rw [if_pos hl] at hK'
                  (repeat' first|(refine Ka ?_;first|refine Kb ?_|(refine Kc ?_;intro _))|refine Kd ?_|refine Kh ?_)
                  exact Post.round (k+1) (by omega) (by omega) (by rw [hK'];show Sub _ [_,_,_,_,_,_,(13,.int .i64 (k:Int)),_];(exact Sub.au)) (by rw [hK'];show Ents _ (.cl b12 [.string ⟨(tN t).toArray⟩,.string ⟨(tD t).toArray⟩] _::_);(exact Ents.au))
                · rw [decide_eq_false hl]
                  rw [if_neg hl] at hK'
                  (repeat' first|(refine Ka ?_;first|refine Kb ?_|(refine Kc ?_;intro _))|refine Kd ?_|refine Kh ?_)
                  exact Post.round (k+1) (by omega) (by omega) (by rw [hK'];show Sub _ [_,_,_,_,_,_,(13,.int .i64 (j:Int)),_];(exact Sub.au)) (by rw [hK'];show Ents _ (.cl b12 [.string ⟨(tN u).toArray⟩,.string ⟨(tD u).toArray⟩] _::_);(exact Ents.au))
            · rw [hend (by omega)]
              (repeat' first|(refine Ka ?_;first|refine Kb ?_|(refine Kc ?_;intro _))|refine Kd ?_|refine Kh ?_)
              (refine Post.ra ?_)
              exact ⟨_,⟨rfl,rfl⟩,by (exact Ents.au)⟩
  · rw [show chkW pts fcs p=350 from if_pos hfl,show rayW pts fcs p q y=.inl 350 from if_pos hfl]
    (repeat' first|(refine Ka ?_;first|refine Kb ?_|(refine Kc ?_;intro _))|refine Kd ?_|refine Kh ?_)
    (refine Post.ra ?_)
    exact ⟨_,⟨rfl,rfl⟩,by (exact Ents.au)⟩
end Go.Proofs.YtgapnfaakdjpaaaGreatDoor

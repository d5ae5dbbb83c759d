/- Walks: the reference of the chapter on insides: rays along faces. -/
import Derived.Test.YtgapnfaakdjpaaaGreatDoorJq1
namespace Go.Proofs.YtgapnfaakdjpaaaGreatDoor
open Go Go.Sx
variable {w0:World} {As:List Ent}
set_option maxRecDepth 100000 in
set_option maxHeartbeats 8000000 in
theorem ralong_ok {a b c n v:V3} {k:Nat} (hk:k < 3) {y:Bool} (ha:a.in 400000) (hb:b.in 400000) (hc:c.in 400000) (hv:v.in 400000) :
    CallsS Tryz.prog w0 92 [.agg #[.int .i64 a.x,.int .i64 a.y,.int .i64 a.z,.int .i64 b.x,.int .i64 b.y,.int .i64 b.z,.int .i64 c.x,.int .i64 c.y,.int .i64 c.z],.int .i64 (k:Int),.int .i64 (n.proj k).sign,v.val,.bool y] As (MetR As (alongM (path0 y) k n a b c v)):=by
  have hσ:=sgn_in (n.proj k)
  have s1:=sub_in hb ha
  have kx1:=fun Bs=>crossR_ok (w0:=w0) (As:=Bs) s1 hv (by decide) (by decide) (by decide)
  have kw1:=fun Bs=>crossR_ok (w0:=w0) (As:=Bs) s1 ha (by decide) (by decide) (by decide)
  have nx1:=cross_in (by decide) (by decide) s1 hv
  have nw1:=cross_in (by decide) (by decide) s1 ha
  have ks1:=fun Bs=>minusV35_ok (w0:=w0) (As:=Bs) (p:=b) (q:=a) hb ha (by decide)
  have eu1:hfU k n a b=-((n.proj k).sign * ((b.sub a).cross a).proj k):=by
    rw [cross_backP];show (n.proj k).sign * (a.cross b).proj k=_;grind
  have ev1:hfV k n a b v=(n.proj k).sign * ((b.sub a).cross v).proj k:=rfl
  have s2:=sub_in hc hb
  have kx2:=fun Bs=>crossR_ok (w0:=w0) (As:=Bs) s2 hv (by decide) (by decide) (by decide)
  have kw2:=fun Bs=>crossR_ok (w0:=w0) (As:=Bs) s2 hb (by decide) (by decide) (by decide)
  have nx2:=cross_in (by decide) (by decide) s2 hv
  have nw2:=cross_in (by decide) (by decide) s2 hb
  have ks2:=fun Bs=>minusV35_ok (w0:=w0) (As:=Bs) (p:=c) (q:=b) hc hb (by decide)
  have eu2:hfU k n b c=-((n.proj k).sign * ((c.sub b).cross b).proj k):=by
    rw [cross_backP];show (n.proj k).sign * (b.cross c).proj k=_;grind
  have ev2:hfV k n b c v=(n.proj k).sign * ((c.sub b).cross v).proj k:=rfl
  have s3:=sub_in ha hc
  have kx3:=fun Bs=>crossR_ok (w0:=w0) (As:=Bs) s3 hv (by decide) (by decide) (by decide)
  have kw3:=fun Bs=>crossR_ok (w0:=w0) (As:=Bs) s3 hc (by decide) (by decide) (by decide)
  have nx3:=cross_in (by decide) (by decide) s3 hv
  have nw3:=cross_in (by decide) (by decide) s3 hc
  have ks3:=fun Bs=>minusV35_ok (w0:=w0) (As:=Bs) (p:=a) (q:=c) ha hc (by decide)
  have eu3:hfU k n c a=-((n.proj k).sign * ((a.sub c).cross c).proj k):=by
    rw [cross_backP];show (n.proj k).sign * (c.cross a).proj k=_;grind
  have ev3:hfV k n c a v=(n.proj k).sign * ((a.sub c).cross v).proj k:=rfl
  have hal:alongM (path0 y) k n a b c v=((cut3R (path0 y) k n a b c v).bind fun t=>if t.ne then some t else none).map (·.low):=rfl
  unfold cut3R at hal
  rw [eu1,eu2,eu3,ev1,ev2,ev3] at hal
  rw [hal]
  clear hal eu1 eu2 eu3 ev1 ev2 ev3
  generalize (b.sub a).cross v=X1 at *
  generalize (b.sub a).cross a=W1 at *
  generalize b.sub a=E1 at *
  generalize (c.sub b).cross v=X2 at *
  generalize (c.sub b).cross b=W2 at *
  generalize c.sub b=E2 at *
  generalize (a.sub c).cross v=X3 at *
  generalize (a.sub c).cross c=W3 at *
  generalize a.sub c=E3 at *
  generalize (n.proj k).sign=σ at *
  have mx1:=sgn_mul hσ (in_proj nx1 k)
  have mw1:=sgn_mul hσ (in_proj nw1 k)
  have px1:=proj_at X1 hk
  have pw1:=proj_at W1 hk
  have mx2:=sgn_mul hσ (in_proj nx2 k)
  have mw2:=sgn_mul hσ (in_proj nw2 k)
  have px2:=proj_at X2 hk
  have pw2:=proj_at W2 hk
  have mx3:=sgn_mul hσ (in_proj nx3 k)
  have mw3:=sgn_mul hσ (in_proj nw3 k)
  have px3:=proj_at X3 hk
  have pw3:=proj_at W3 hk
  clear nx1 nx2 nx3 nw1 nw2 nw3
  have hkb:Nat.blt k 3=true:=by rw [Nat.blt_eq];exact hk
  have hq0:qI 0 1=0:=by decide +kernel
  have hq1:qI 1 1=1:=by decide +kernel
  refine CallsS.of_tri Tryz.func92 rfl Tryz.ntmps92 rfl ?_
  show Tri _ _ _ _ (env0 0 [.agg #[.int .i64 a.x,.int .i64 a.y,.int .i64 a.z,.int .i64 b.x,.int .i64 b.y,.int .i64 b.z,.int .i64 c.x,.int .i64 c.y,.int .i64 c.z],.int .i64 (k:Int),.int .i64 σ,.agg #[.int .i64 v.x,.int .i64 v.y,.int .i64 v.z],.bool y]) _ _
  (repeat' first|(refine Ka ?_;first|refine Kb ?_|(refine Kc ?_;intro _))|refine Kd ?_|refine Kh ?_)
  refine TL.callv rfl rfl rfl rfl (ofRef_ok (n:=0) (d:=1) (by decide) (by decide) (by decide)) ?_
  rw [hq0]
  rintro _ _ ⟨rfl,rfl⟩
  (repeat' first|(refine Ka ?_;first|refine Kb ?_|(refine Kc ?_;intro _))|refine Kd ?_|refine Kh ?_)
  refine TL.callv rfl rfl rfl rfl (ofRef_ok (n:=1) (d:=1) (by decide) (by decide) (by decide)) ?_
  rw [hq1]
  rintro _ _ ⟨rfl,rfl⟩
  (repeat' first|(refine Ka ?_;first|refine Kb ?_|(refine Kc ?_;intro _))|refine Kd ?_|refine Kh ?_)
  rename_i b5 b8 b10 b12 b14
  refine Tri.loop (ι:=Nat × Spn) (fun x=>(Fit 19 x.2.low∧Fit 19 x.2.high)∧((x.1=0∧some (path0 y)=some x.2)∨(x.1=1∧cutR (path0 y) (-(σ * W1.proj k)) (σ * X1.proj k)=some x.2)∨(x.1=2∧((cutR (path0 y) (-(σ * W1.proj k)) (σ * X1.proj k)).bind fun s=>cutR s (-(σ * W2.proj k)) (σ * X2.proj k))=some x.2)∨(x.1=3∧(((cutR (path0 y) (-(σ * W1.proj k)) (σ * X1.proj k)).bind fun s=>cutR s (-(σ * W2.proj k)) (σ * X2.proj k)).bind fun s=>cutR s (-(σ * W3.proj k)) (σ * X3.proj k))=some x.2))) (fun x=>3 - x.1)
    (fun x=>[(1,.int .i64 (k:Int)),(2,.int .i64 σ),(5,.pointer (some ⟨b5,0,none⟩)),(8,.pointer (some ⟨b8,0,none⟩)),(10,.pointer (some ⟨b10,0,none⟩)),(12,.pointer (some ⟨b12,0,none⟩)),(14,.pointer (some ⟨b14,0,none⟩)),(16,.bool (!x.2.opn)),(17,.int .i64 (x.1:Int))])
    (fun x=>.cl b14 [.string ⟨(tN x.2.high).toArray⟩,.string ⟨(tD x.2.high).toArray⟩] 49::.cl b12 [.string ⟨(tN x.2.low).toArray⟩,.string ⟨(tD x.2.low).toArray⟩] 49::.cl b10 [.string ⟨#[]⟩,.string ⟨#[]⟩] 49::.cl b8 [.int .i64 v.x,.int .i64 v.y,.int .i64 v.z] 31::.cl b5 [.int .i64 a.x,.int .i64 a.y,.int .i64 a.z,.int .i64 b.x,.int .i64 b.y,.int .i64 b.z,.int .i64 c.x,.int .i64 c.y,.int .i64 c.z] 38::As) (0,path0 y) ⟨⟨fit0,fit1⟩,.inl ⟨rfl,rfl⟩⟩ (by (exact Sub.au)) (by show Ents _ (.cl b14 [.string ⟨(tN 1).toArray⟩,.string ⟨(tD 1).toArray⟩] 49::.cl b12 [.string ⟨(tN 0).toArray⟩,.string ⟨(tD 0).toArray⟩] 49::.cl b10 [.string ⟨#[]⟩,.string ⟨#[]⟩] 49::.cl b8 [.int .i64 v.x,.int .i64 v.y,.int .i64 v.z] 31::.cl b5 [.int .i64 a.x,.int .i64 a.y,.int .i64 a.z,.int .i64 b.x,.int .i64 b.y,.int .i64 b.z,.int .i64 c.x,.int .i64 c.y,.int .i64 c.z] 38::As);(exact Ents.au)) ?_
  rintro ⟨i,lo,hi,op⟩ ⟨⟨hlo,hhi⟩,hI⟩
  simp only at hlo hhi hI
  rcases hI with ⟨rfl,hI⟩|⟨rfl,hI⟩|⟨rfl,hI⟩|⟨rfl,hI⟩
  · show Tri _ _ _ _ [(1,.int .i64 (k:Int)),(2,.int .i64 σ),(5,.pointer (some ⟨b5,0,none⟩)),(8,.pointer (some ⟨b8,0,none⟩)),(10,.pointer (some ⟨b10,0,none⟩)),(12,.pointer (some ⟨b12,0,none⟩)),(14,.pointer (some ⟨b14,0,none⟩)),(16,.bool (!op)),(17,.int .i64 0)] (.cl b14 [.string ⟨(tN hi).toArray⟩,.string ⟨(tD hi).toArray⟩] 49::.cl b12 [.string ⟨(tN lo).toArray⟩,.string ⟨(tD lo).toArray⟩] 49::.cl b10 [.string ⟨#[]⟩,.string ⟨#[]⟩] 49::.cl b8 [.int .i64 v.x,.int .i64 v.y,.int .i64 v.z] 31::.cl b5 [.int .i64 a.x,.int .i64 a.y,.int .i64 a.z,.int .i64 b.x,.int .i64 b.y,.int .i64 b.z,.int .i64 c.x,.int .i64 c.y,.int .i64 c.z] 38::As) _
    (repeat' first|(refine Ka ?_;first|refine Kb ?_|(refine Kc ?_;intro _))|refine Kd ?_|refine Kh ?_)
    rename_i b18
    refine Tri.mid (fun e' As'=>∃ b19,e'=[(1,.int .i64 (k:Int)),(2,.int .i64 σ),(5,.pointer (some ⟨b5,0,none⟩)),(8,.pointer (some ⟨b8,0,none⟩)),(10,.pointer (some ⟨b10,0,none⟩)),(12,.pointer (some ⟨b12,0,none⟩)),(14,.pointer (some ⟨b14,0,none⟩)),(16,.bool (!op)),(17,.int .i64 0),(18,.pointer (some ⟨b18,0,none⟩)),(19,.pointer (some ⟨b19,0,none⟩))]∧As'=.cl b19 [.int .i64 E1.x,.int .i64 E1.y,.int .i64 E1.z] 31::.cl b18 [.int .i64 a.x,.int .i64 a.y,.int .i64 a.z] 31::.cl b14 [.string ⟨(tN hi).toArray⟩,.string ⟨(tD hi).toArray⟩] 49::.cl b12 [.string ⟨(tN lo).toArray⟩,.string ⟨(tD lo).toArray⟩] 49::.cl b10 [.string ⟨#[]⟩,.string ⟨#[]⟩] 49::.cl b8 [.int .i64 v.x,.int .i64 v.y,.int .i64 v.z] 31::.cl b5 [.int .i64 a.x,.int .i64 a.y,.int .i64 a.z,.int .i64 b.x,.int .i64 b.y,.int .i64 b.z,.int .i64 c.x,.int .i64 c.y,.int .i64 c.z] 38::As) ?_ ?_
    · refine Tri.dw [.cl b5 [.int .i64 a.x,.int .i64 a.y,.int .i64 a.z,.int .i64 b.x,.int .i64 b.y,.int .i64 b.z,.int .i64 c.x,.int .i64 c.y,.int .i64 c.z] 38,.cl b18 [.int .i64 a.x,.int .i64 a.y,.int .i64 a.z] 31] [] (.take 0 (.take 1 (.take 2 (.take 3 (.take 4 (.take 5 (.all [(6,.all [(7,.all [(8,.done)])]),(7,.all [(6,.all [(8,.done)])])]))))))) ?_
      (repeat' first|(refine Ka ?_;first|refine Kb ?_|(refine Kc ?_;intro _))|refine Kd ?_|(refine Ki ?_;refine Kj ?_)|exact Kk|refine Kl ?_ ?_|(refine Km ?_;first|refine Kn ?_|(refine Ko ?_;intro _))|(refine Kp ?_;first|refine Kq ?_|refine Kr ?_)|refine Kh ?_)
      repeat' (refine T1.callv rfl rfl rfl rfl rfl (ks1 _) ?_;rintro _ _ ⟨rfl,rfl⟩;(repeat' first|(refine Ka ?_;first|refine Kb ?_|(refine Kc ?_;intro _))|refine Kd ?_|(refine Ki ?_;refine Kj ?_)|exact Kk|refine Kl ?_ ?_|(refine Km ?_;first|refine Kn ?_|(refine Ko ?_;intro _))|(refine Kp ?_;first|refine Kq ?_|refine Kr ?_)|refine Kh ?_))
      all_goals exact Post.cut _ _ ⟨_,rfl,rfl⟩ (by (exact Sub.au)) (by (exact Ents.au))
    rintro _ _ ⟨b19,rfl,rfl⟩
    (repeat' first|(refine Ka ?_;first|refine Kb ?_|(refine Kc ?_;intro _))|refine Kd ?_|(refine Ki ?_;refine Kj ?_)|exact Kk|refine Kl ?_ ?_|(refine Km ?_;first|refine Kn ?_|(refine Ko ?_;intro _))|(refine Kp ?_;first|refine Kq ?_|refine Kr ?_)|refine Kh ?_)
    refine TL.callv rfl rfl rfl rfl (kx1 _) ?_
    rintro _ _ ⟨rfl,rfl⟩
    show TL _ _ _ _ _ ((_,.agg #[.int .i64 X1.x,.int .i64 X1.y,.int .i64 X1.z])::_) _ _
    (repeat' first|(refine Ka ?_;first|refine Kb ?_|(refine Kc ?_;intro _))|refine Kd ?_|(refine Ki ?_;refine Kj ?_)|exact Kk|refine Kl ?_ ?_|(refine Km ?_;first|refine Kn ?_|(refine Ko ?_;intro _))|(refine Kp ?_;first|refine Kq ?_|refine Kr ?_)|refine Kh ?_)
    refine TL.f rfl rfl (ExF.idxArr rfl rfl rfl hkb px1) ?_
    (repeat' first|(refine Ka ?_;first|refine Kb ?_|(refine Kc ?_;intro _))|refine Kd ?_|(refine Ki ?_;refine Kj ?_)|exact Kk|refine Kl ?_ ?_|(refine Km ?_;first|refine Kn ?_|(refine Ko ?_;intro _))|(refine Kp ?_;first|refine Kq ?_|refine Kr ?_)|refine Kh ?_)
    refine TL.callv rfl rfl rfl rfl (kw1 _) ?_
    rintro _ _ ⟨rfl,rfl⟩
    show TL _ _ _ _ _ ((_,.agg #[.int .i64 W1.x,.int .i64 W1.y,.int .i64 W1.z])::_) _ _
    (repeat' first|(refine Ka ?_;first|refine Kb ?_|(refine Kc ?_;intro _))|refine Kd ?_|(refine Ki ?_;refine Kj ?_)|exact Kk|refine Kl ?_ ?_|(refine Km ?_;first|refine Kn ?_|(refine Ko ?_;intro _))|(refine Kp ?_;first|refine Kq ?_|refine Kr ?_)|refine Kh ?_)
    refine TL.f rfl rfl (ExF.idxArr rfl rfl rfl hkb pw1) ?_
    (repeat' first|(refine Ka ?_;first|refine Kb ?_|(refine Kc ?_;intro _))|refine Kd ?_|(refine Ki ?_;refine Kj ?_)|exact Kk|refine Kl ?_ ?_|(refine Km ?_;first|refine Kn ?_|(refine Ko ?_;intro _))|(refine Kp ?_;first|refine Kq ?_|refine Kr ?_)|refine Kh ?_)
    clear kx1 kx2 kx3 kw1 kw2 kw3 ks1 ks2 ks3 px1 px2 px3 pw1 pw2 pw3
    generalize σ * X1.proj k=V at *
    generalize σ * W1.proj k=W at *
    rcases Int.lt_trichotomy V 0 with h0|h0|h0
    · have hft:Fit 19 (qI W V):=fit_qI (by omega) (by omega) (by omega)
      (repeat' first|(refine Ka ?_;first|refine Kb ?_|(refine Kc ?_;intro _))|refine Kd ?_|(refine Ki ?_;refine Kj ?_)|exact Kk|refine Kl ?_ ?_|(refine Km ?_;first|refine Kn ?_|(refine Ko ?_;intro _))|(refine Kp ?_;first|refine Kq ?_|refine Kr ?_)|refine Kh ?_)
      refine TL.callv rfl rfl rfl rfl (ofRef_ok (n:=W) (d:=V) (by omega) (by omega) (by omega)) ?_
      rintro _ _ ⟨rfl,rfl⟩
      (repeat' first|(refine Ka ?_;first|refine Kb ?_|(refine Kc ?_;intro _))|refine Kd ?_|refine Kh ?_)
      cases op with
      | true =>
        (repeat' first|(refine Ka ?_;first|refine Kb ?_|(refine Kc ?_;intro _))|refine Kd ?_|refine Kh ?_)
        exact Post.round (1,⟨lo,qI W V,false⟩) ⟨⟨hlo,hft⟩,.inr (.inl ⟨rfl,(by rw [show path0 y=_ from Option.some.inj hI];exact cutW_high h0 (.inl rfl))⟩)⟩ (by simp only;omega) (by (exact Sub.au)) (by (exact Ents.au))
      | false =>
        (repeat' first|(refine Ka ?_;first|refine Kb ?_|(refine Kc ?_;intro _))|refine Kd ?_|refine Kh ?_)
        refine TL.callv rfl rfl rfl rfl (less36_ok hft hhi) ?_
        rintro _ _ ⟨rfl,rfl⟩
        by_cases hl:qI W V < hi
        · rw [decide_eq_true hl]
          (repeat' first|(refine Ka ?_;first|refine Kb ?_|(refine Kc ?_;intro _))|refine Kd ?_|refine Kh ?_)
          exact Post.round (1,⟨lo,qI W V,false⟩) ⟨⟨hlo,hft⟩,.inr (.inl ⟨rfl,(by rw [show path0 y=_ from Option.some.inj hI];exact cutW_high h0 (.inr hl))⟩)⟩ (by simp only;omega) (by (exact Sub.au)) (by (exact Ents.au))
        · rw [decide_eq_false hl]
          (repeat' first|(refine Ka ?_;first|refine Kb ?_|(refine Kc ?_;intro _))|refine Kd ?_|refine Kh ?_)
          exact Post.round (1,⟨lo,hi,false⟩) ⟨⟨hlo,hhi⟩,.inr (.inl ⟨rfl,(by rw [show path0 y=_ from Option.some.inj hI];exact cutW_highN h0 (by rintro (h|h);cases h;exact hl h))⟩)⟩ (by simp only;omega) (by (exact Sub.au)) (by (exact Ents.au))
    · subst h0
      by_cases hw:0 < W
      · (repeat' first|(refine Ka ?_;first|refine Kb ?_|(refine Kc ?_;intro _))|refine Kd ?_|refine Kh ?_)
        (refine Post.ra ?_)
        refine ⟨As,?_,by (exact Ents.au)⟩
        rw [show cutR (path0 y) (-W) 0=none from cutW_none hw,Option.bind_none,Option.bind_none,Option.bind_none,Option.map_none]
        exact MetR.none (x:=[]) (y:=[])
      · (repeat' first|(refine Ka ?_;first|refine Kb ?_|(refine Kc ?_;intro _))|refine Kd ?_|refine Kh ?_)
        exact Post.round (1,⟨lo,hi,op⟩) ⟨⟨hlo,hhi⟩,.inr (.inl ⟨rfl,(by rw [show path0 y=_ from Option.some.inj hI];exact cutW_zero hw)⟩)⟩ (by simp only;omega) (by (exact Sub.au)) (by (exact Ents.au))
    · have hft:Fit 19 (qI W V):=fit_qI (by omega) (by omega) (by omega)
      (repeat' first|(refine Ka ?_;first|refine Kb ?_|(refine Kc ?_;intro _))|refine Kd ?_|refine Kh ?_)
      refine TL.callv rfl rfl rfl rfl (ofRef_ok (n:=W) (d:=V) (by omega) (by omega) (by omega)) ?_
      rintro _ _ ⟨rfl,rfl⟩
      (repeat' first|(refine Ka ?_;first|refine Kb ?_|(refine Kc ?_;intro _))|refine Kd ?_|refine Kh ?_)
      refine TL.callv rfl rfl rfl rfl (less36_ok hlo hft) ?_
      rintro _ _ ⟨rfl,rfl⟩
      by_cases hl:lo < qI W V
      · rw [decide_eq_true hl]
        (repeat' first|(refine Ka ?_;first|refine Kb ?_|(refine Kc ?_;intro _))|refine Kd ?_|refine Kh ?_)
        exact Post.round (1,⟨qI W V,hi,op⟩) ⟨⟨hft,hhi⟩,.inr (.inl ⟨rfl,(by rw [show path0 y=_ from Option.some.inj hI];exact cutW_low h0 hl)⟩)⟩ (by simp only;omega) (by (exact Sub.au)) (by (exact Ents.au))
      · rw [decide_eq_false hl]
        (repeat' first|(refine Ka ?_;first|refine Kb ?_|(refine Kc ?_;intro _))|refine Kd ?_|refine Kh ?_)
        exact Post.round (1,⟨lo,hi,op⟩) ⟨⟨hlo,hhi⟩,.inr (.inl ⟨rfl,(by rw [show path0 y=_ from Option.some.inj hI];exact cutW_lowN h0 hl)⟩)⟩ (by simp only;omega) (by (exact Sub.au)) (by (exact Ents.au))
  · show Tri _ _ _ _ [(1,.int .i64 (k:Int)),(2,.int .i64 σ),(5,.pointer (some ⟨b5,0,none⟩)),(8,.pointer (some ⟨b8,0,none⟩)),(10,.pointer (some ⟨b10,0,none⟩)),(12,.pointer (some ⟨b12,0,none⟩)),(14,.pointer (some ⟨b14,0,none⟩)),(16,.bool (!op)),(17,.int .i64 1)] (.cl b14 [.string ⟨(tN hi).toArray⟩,.string ⟨(tD hi).toArray⟩] 49::.cl b12 [.string ⟨(tN lo).toArray⟩,.string ⟨(tD lo).toArray⟩] 49::.cl b10 [.string ⟨#[]⟩,.string ⟨#[]⟩] 49::.cl b8 [.int .i64 v.x,.int .i64 v.y,.int .i64 v.z] 31::.cl b5 [.int .i64 a.x,.int .i64 a.y,.int .i64 a.z,.int .i64 b.x,.int .i64 b.y,.int .i64 b.z,.int .i64 c.x,.int .i64 c.y,.int .i64 c.z] 38::As) _
    (repeat' first|(refine Ka ?_;first|refine Kb ?_|(refine Kc ?_;intro _))|refine Kd ?_|refine Kh ?_)
    rename_i b18
    refine Tri.mid (fun e' As'=>∃ b19,e'=[(1,.int .i64 (k:Int)),(2,.int .i64 σ),(5,.pointer (some ⟨b5,0,none⟩)),(8,.pointer (some ⟨b8,0,none⟩)),(10,.pointer (some ⟨b10,0,none⟩)),(12,.pointer (some ⟨b12,0,none⟩)),(14,.pointer (some ⟨b14,0,none⟩)),(16,.bool (!op)),(17,.int .i64 1),(18,.pointer (some ⟨b18,0,none⟩)),(19,.pointer (some ⟨b19,0,none⟩))]∧As'=.cl b19 [.int .i64 E2.x,.int .i64 E2.y,.int .i64 E2.z] 31::.cl b18 [.int .i64 b.x,.int .i64 b.y,.int .i64 b.z] 31::.cl b14 [.string ⟨(tN hi).toArray⟩,.string ⟨(tD hi).toArray⟩] 49::.cl b12 [.string ⟨(tN lo).toArray⟩,.string ⟨(tD lo).toArray⟩] 49::.cl b10 [.string ⟨#[]⟩,.string ⟨#[]⟩] 49::.cl b8 [.int .i64 v.x,.int .i64 v.y,.int .i64 v.z] 31::.cl b5 [.int .i64 a.x,.int .i64 a.y,.int .i64 a.z,.int .i64 b.x,.int .i64 b.y,.int .i64 b.z,.int .i64 c.x,.int .i64 c.y,.int .i64 c.z] 38::As) ?_ ?_
    · refine Tri.dw [.cl b5 [.int .i64 a.x,.int .i64 a.y,.int .i64 a.z,.int .i64 b.x,.int .i64 b.y,.int .i64 b.z,.int .i64 c.x,.int .i64 c.y,.int .i64 c.z] 38,.cl b18 [.int .i64 b.x,.int .i64 b.y,.int .i64 b.z] 31] [] (.take 0 (.take 1 (.take 2 (.take 3 (.take 4 (.take 5 (.all [(6,.all [(7,.all [(8,.done)])]),(7,.all [(6,.all [(8,.done)])])]))))))) ?_
      (repeat' first|(refine Ka ?_;first|refine Kb ?_|(refine Kc ?_;intro _))|refine Kd ?_|(refine Ki ?_;refine Kj ?_)|exact Kk|refine Kl ?_ ?_|(refine Km ?_;first|refine Kn ?_|(refine Ko ?_;intro _))|(refine Kp ?_;first|refine Kq ?_|refine Kr ?_)|refine Kh ?_)
      repeat' (refine T1.callv rfl rfl rfl rfl rfl (ks2 _) ?_;rintro _ _ ⟨rfl,rfl⟩;(repeat' first|(refine Ka ?_;first|refine Kb ?_|(refine Kc ?_;intro _))|refine Kd ?_|(refine Ki ?_;refine Kj ?_)|exact Kk|refine Kl ?_ ?_|(refine Km ?_;first|refine Kn ?_|(refine Ko ?_;intro _))|(refine Kp ?_;first|refine Kq ?_|refine Kr ?_)|refine Kh ?_))
      all_goals exact Post.cut _ _ ⟨_,rfl,rfl⟩ (by (exact Sub.au)) (by (exact Ents.au))
    rintro _ _ ⟨b19,rfl,rfl⟩
    (repeat' first|(refine Ka ?_;first|refine Kb ?_|(refine Kc ?_;intro _))|refine Kd ?_|(refine Ki ?_;refine Kj ?_)|exact Kk|refine Kl ?_ ?_|(refine Km ?_;first|refine Kn ?_|(refine Ko ?_;intro _))|(refine Kp ?_;first|refine Kq ?_|refine Kr ?_)|refine Kh ?_)
    refine TL.callv rfl rfl rfl rfl (kx2 _) ?_
    rintro _ _ ⟨rfl,rfl⟩
    show TL _ _ _ _ _ ((_,.agg #[.int .i64 X2.x,.int .i64 X2.y,.int .i64 X2.z])::_) _ _
    (repeat' first|(refine Ka ?_;first|refine Kb ?_|(refine Kc ?_;intro _))|refine Kd ?_|(refine Ki ?_;refine Kj ?_)|exact Kk|refine Kl ?_ ?_|(refine Km ?_;first|refine Kn ?_|(refine Ko ?_;intro _))|(refine Kp ?_;first|refine Kq ?_|refine Kr ?_)|refine Kh ?_)
    refine TL.f rfl rfl (ExF.idxArr rfl rfl rfl hkb px2) ?_
    (repeat' first|(refine Ka ?_;first|refine Kb ?_|(refine Kc ?_;intro _))|refine Kd ?_|(refine Ki ?_;refine Kj ?_)|exact Kk|refine Kl ?_ ?_|(refine Km ?_;first|refine Kn ?_|(refine Ko ?_;intro _))|(refine Kp ?_;first|refine Kq ?_|refine Kr ?_)|refine Kh ?_)
    refine TL.callv rfl rfl rfl rfl (kw2 _) ?_
    rintro _ _ ⟨rfl,rfl⟩
    show TL _ _ _ _ _ ((_,.agg #[.int .i64 W2.x,.int .i64 W2.y,.int .i64 W2.z])::_) _ _
    (repeat' first|(refine Ka ?_;first|refine Kb ?_|(refine Kc ?_;intro _))|refine Kd ?_|(refine Ki ?_;refine Kj ?_)|exact Kk|refine Kl ?_ ?_|(refine Km ?_;first|refine Kn ?_|(refine Ko ?_;intro _))|(refine Kp ?_;first|refine Kq ?_|refine Kr ?_)|refine Kh ?_)
    refine TL.f rfl rfl (ExF.idxArr rfl rfl rfl hkb pw2) ?_
    (repeat' first|(refine Ka ?_;first|refine Kb ?_|(refine Kc ?_;intro _))|refine Kd ?_|(refine Ki ?_;refine Kj ?_)|exact Kk|refine Kl ?_ ?_|(refine Km ?_;first|refine Kn ?_|(refine Ko ?_;intro _))|(refine Kp ?_;first|refine Kq ?_|refine Kr ?_)|refine Kh ?_)
    clear kx1 kx2 kx3 kw1 kw2 kw3 ks1 ks2 ks3 px1 px2 px3 pw1 pw2 pw3
    generalize σ * X2.proj k=V at *
    generalize σ * W2.proj k=W at *
    rcases Int.lt_trichotomy V 0 with h0|h0|h0
    · have hft:Fit 19 (qI W V):=fit_qI (by omega) (by omega) (by omega)
      (repeat' first|(refine Ka ?_;first|refine Kb ?_|(refine Kc ?_;intro _))|refine Kd ?_|(refine Ki ?_;refine Kj ?_)|exact Kk|refine Kl ?_ ?_|(refine Km ?_;first|refine Kn ?_|(refine Ko ?_;intro _))|(refine Kp ?_;first|refine Kq ?_|refine Kr ?_)|refine Kh ?_)
      refine TL.callv rfl rfl rfl rfl (ofRef_ok (n:=W) (d:=V) (by omega) (by omega) (by omega)) ?_
      rintro _ _ ⟨rfl,rfl⟩
      (repeat' first|(refine Ka ?_;first|refine Kb ?_|(refine Kc ?_;intro _))|refine Kd ?_|refine Kh ?_)
      cases op with
      | true =>
        (repeat' first|(refine Ka ?_;first|refine Kb ?_|(refine Kc ?_;intro _))|refine Kd ?_|refine Kh ?_)
        exact Post.round (2,⟨lo,qI W V,false⟩) ⟨⟨hlo,hft⟩,.inr (.inr (.inl ⟨rfl,(by rw [hI];exact cutW_high h0 (.inl rfl))⟩))⟩ (by simp only;omega) (by (exact Sub.au)) (by (exact Ents.au))
      | false =>
        (repeat' first|(refine Ka ?_;first|refine Kb ?_|(refine Kc ?_;intro _))|refine Kd ?_|refine Kh ?_)
        refine TL.callv rfl rfl rfl rfl (less36_ok hft hhi) ?_
        rintro _ _ ⟨rfl,rfl⟩
        by_cases hl:qI W V < hi
        · rw [decide_eq_true hl]
          (repeat' first|(refine Ka ?_;first|refine Kb ?_|(refine Kc ?_;intro _))|refine Kd ?_|refine Kh ?_)
          exact Post.round (2,⟨lo,qI W V,false⟩) ⟨⟨hlo,hft⟩,.inr (.inr (.inl ⟨rfl,(by rw [hI];exact cutW_high h0 (.inr hl))⟩))⟩ (by simp only;omega) (by (exact Sub.au)) (by (exact Ents.au))
        · rw [decide_eq_false hl]
          (repeat' first|(refine Ka ?_;first|refine Kb ?_|(refine Kc ?_;intro _))|refine Kd ?_|refine Kh ?_)
          exact Post.round (2,⟨lo,hi,false⟩) ⟨⟨hlo,hhi⟩,.inr (.inr (.inl ⟨rfl,(by rw [hI];exact cutW_highN h0 (by rintro (h|h);cases h;exact hl h))⟩))⟩ (by simp only;omega) (by (exact Sub.au)) (by (exact Ents.au))
    · subst h0
      by_cases hw:0 < W
      · (repeat' first|(refine Ka ?_;first|refine Kb ?_|(refine Kc ?_;intro _))|refine Kd ?_|refine Kh ?_)
        (refine Post.ra ?_)
        refine ⟨As,?_,by (exact Ents.au)⟩
        rw [hI,show (some (⟨lo,hi,op⟩:Spn)).bind (fun s=>cutR s (-W) 0)=none from cutW_none hw,Option.bind_none,Option.bind_none,Option.map_none]
        exact MetR.none (x:=[]) (y:=[])
      · (repeat' first|(refine Ka ?_;first|refine Kb ?_|(refine Kc ?_;intro _))|refine Kd ?_|refine Kh ?_)
        exact Post.round (2,⟨lo,hi,op⟩) ⟨⟨hlo,hhi⟩,.inr (.inr (.inl ⟨rfl,(by rw [hI];exact cutW_zero hw)⟩))⟩ (by simp only;omega) (by (exact Sub.au)) (by (exact Ents.au))
    · have hft:Fit 19 (qI W V):=fit_qI (by omega) (by omega) (by omega)
      (repeat' first|(refine Ka ?_;first|refine Kb ?_|(refine Kc ?_;intro _))|refine Kd ?_|refine Kh ?_)
      refine TL.callv rfl rfl rfl rfl (ofRef_ok (n:=W) (d:=V) (by omega) (by omega) (by omega)) ?_
      rintro _ _ ⟨rfl,rfl⟩
      (repeat' first|(refine Ka ?_;first|refine Kb ?_|(refine Kc ?_;intro _))|refine Kd ?_|refine Kh ?_)
      refine TL.callv rfl rfl rfl rfl (less36_ok hlo hft) ?_
      rintro _ _ ⟨rfl,rfl⟩
      by_cases hl:lo < qI W V
      · rw [decide_eq_true hl]
        (repeat' first|(refine Ka ?_;first|refine Kb ?_|(refine Kc ?_;intro _))|refine Kd ?_|refine Kh ?_)
        exact Post.round (2,⟨qI W V,hi,op⟩) ⟨⟨hft,hhi⟩,.inr (.inr (.inl ⟨rfl,(by rw [hI];exact cutW_low h0 hl)⟩))⟩ (by simp only;omega) (by (exact Sub.au)) (by (exact Ents.au))
      · rw [decide_eq_false hl]
        (repeat' first|(refine Ka ?_;first|refine Kb ?_|(refine Kc ?_;intro _))|refine Kd ?_|refine Kh ?_)
        exact Post.round (2,⟨lo,hi,op⟩) ⟨⟨hlo,hhi⟩,.inr (.inr (.inl ⟨rfl,(by rw [hI];exact cutW_lowN h0 hl)⟩))⟩ (by simp only;omega) (by (exact Sub.au)) (by (exact Ents.au))
  · show Tri _ _ _ _ [(1,.int .i64 (k:Int)),(2,.int .i64 σ),(5,.pointer (some ⟨b5,0,none⟩)),(8,.pointer (some ⟨b8,0,none⟩)),(10,.pointer (some ⟨b10,0,none⟩)),(12,.pointer (some ⟨b12,0,none⟩)),(14,.pointer (some ⟨b14,0,none⟩)),(16,.bool (!op)),(17,.int .i64 2)] (.cl b14 [.string ⟨(tN hi).toArray⟩,.string ⟨(tD hi).toArray⟩] 49::.cl b12 [.string ⟨(tN lo).toArray⟩,.string ⟨(tD lo).toArray⟩] 49::.cl b10 [.string ⟨#[]⟩,.string ⟨#[]⟩] 49::.cl b8 [.int .i64 v.x,.int .i64 v.y,.int .i64 v.z] 31::.cl b5 [.int .i64 a.x,.int .i64 a.y,.int .i64 a.z,.int .i64 b.x,.int .i64 b.y,.int .i64 b.z,.int .i64 c.x,.int .i64 c.y,.int .i64 c.z] 38::As) _
    (repeat' first|(refine Ka ?_;first|refine Kb ?_|(refine Kc ?_;intro _))|refine Kd ?_|refine Kh ?_)
    rename_i b18
    refine Tri.mid (fun e' As'=>∃ b19,e'=[(1,.int .i64 (k:Int)),(2,.int .i64 σ),(5,.pointer (some ⟨b5,0,none⟩)),(8,.pointer (some ⟨b8,0,none⟩)),(10,.pointer (some ⟨b10,0,none⟩)),(12,.pointer (some ⟨b12,0,none⟩)),(14,.pointer (some ⟨b14,0,none⟩)),(16,.bool (!op)),(17,.int .i64 2),(18,.pointer (some ⟨b18,0,none⟩)),(19,.pointer (some ⟨b19,0,none⟩))]∧As'=.cl b19 [.int .i64 E3.x,.int .i64 E3.y,.int .i64 E3.z] 31::.cl b18 [.int .i64 c.x,.int .i64 c.y,.int .i64 c.z] 31::.cl b14 [.string ⟨(tN hi).toArray⟩,.string ⟨(tD hi).toArray⟩] 49::.cl b12 [.string ⟨(tN lo).toArray⟩,.string ⟨(tD lo).toArray⟩] 49::.cl b10 [.string ⟨#[]⟩,.string ⟨#[]⟩] 49::.cl b8 [.int .i64 v.x,.int .i64 v.y,.int .i64 v.z] 31::.cl b5 [.int .i64 a.x,.int .i64 a.y,.int .i64 a.z,.int .i64 b.x,.int .i64 b.y,.int .i64 b.z,.int .i64 c.x,.int .i64 c.y,.int .i64 c.z] 38::As) ?_ ?_
    · refine Tri.dw [.cl b5 [.int .i64 a.x,.int .i64 a.y,.int .i64 a.z,.int .i64 b.x,.int .i64 b.y,.int .i64 b.z,.int .i64 c.x,.int .i64 c.y,.int .i64 c.z] 38,.cl b18 [.int .i64 c.x,.int .i64 c.y,.int .i64 c.z] 31] [] (.take 0 (.take 1 (.take 2 (.take 3 (.take 4 (.take 5 (.all [(6,.all [(7,.all [(8,.done)])]),(7,.all [(6,.all [(8,.done)])])]))))))) ?_
      (repeat' first|(refine Ka ?_;first|refine Kb ?_|(refine Kc ?_;intro _))|refine Kd ?_|(refine Ki ?_;refine Kj ?_)|exact Kk|refine Kl ?_ ?_|(refine Km ?_;first|refine Kn ?_|(refine Ko ?_;intro _))|(refine Kp ?_;first|refine Kq ?_|refine Kr ?_)|refine Kh ?_)
      repeat' (refine T1.callv rfl rfl rfl rfl rfl (ks3 _) ?_;rintro _ _ ⟨rfl,rfl⟩;(repeat' first|(refine Ka ?_;first|refine Kb ?_|(refine Kc ?_;intro _))|refine Kd ?_|(refine Ki ?_;refine Kj ?_)|exact Kk|refine Kl ?_ ?_|(refine Km ?_;first|refine Kn ?_|(refine Ko ?_;intro _))|(refine Kp ?_;first|refine Kq ?_|refine Kr ?_)|refine Kh ?_))
      all_goals exact Post.cut _ _ ⟨_,rfl,rfl⟩ (by (exact Sub.au)) (by (exact Ents.au))
    rintro _ _ ⟨b19,rfl,rfl⟩
    (repeat' first|(refine Ka ?_;first|refine Kb ?_|(refine Kc ?_;intro _))|refine Kd ?_|(refine Ki ?_;refine Kj ?_)|exact Kk|refine Kl ?_ ?_|(refine Km ?_;first|refine Kn ?_|(refine Ko ?_;intro _))|(refine Kp ?_;first|refine Kq ?_|refine Kr ?_)|refine Kh ?_)
    refine TL.callv rfl rfl rfl rfl (kx3 _) ?_
    rintro _ _ ⟨rfl,rfl⟩
    show TL _ _ _ _ _ ((_,.agg #[.int .i64 X3.x,.int .i64 X3.y,.int .i64 X3.z])::_) _ _
    (repeat' first|(refine Ka ?_;first|refine Kb ?_|(refine Kc ?_;intro _))|refine Kd ?_|(refine Ki ?_;refine Kj ?_)|exact Kk|refine Kl ?_ ?_|(refine Km ?_;first|refine Kn ?_|(refine Ko ?_;intro _))|(refine Kp ?_;first|refine Kq ?_|refine Kr ?_)|refine Kh ?_)
    refine TL.f rfl rfl (ExF.idxArr rfl rfl rfl hkb px3) ?_
    (repeat' first|(refine Ka ?_;first|refine Kb ?_|(refine Kc ?_;intro _))|refine Kd ?_|(refine Ki ?_;refine Kj ?_)|exact Kk|refine Kl ?_ ?_|(refine Km ?_;first|refine Kn ?_|(refine Ko ?_;intro _))|(refine Kp ?_;first|refine Kq ?_|refine Kr ?_)|refine Kh ?_)
    refine TL.callv rfl rfl rfl rfl (kw3 _) ?_
    rintro _ _ ⟨rfl,rfl⟩
    show TL _ _ _ _ _ ((_,.agg #[.int .i64 W3.x,.int .i64 W3.y,.int .i64 W3.z])::_) _ _
    (repeat' first|(refine Ka ?_;first|refine Kb ?_|(refine Kc ?_;intro _))|refine Kd ?_|(refine Ki ?_;refine Kj ?_)|exact Kk|refine Kl ?_ ?_|(refine Km ?_;first|refine Kn ?_|(refine Ko ?_;intro _))|(refine Kp ?_;first|refine Kq ?_|refine Kr ?_)|refine Kh ?_)
    refine TL.f rfl rfl (ExF.idxArr rfl rfl rfl hkb pw3) ?_
    (repeat' first|(refine Ka ?_;first|refine Kb ?_|(refine Kc ?_;intro _))|refine Kd ?_|(refine Ki ?_;refine Kj ?_)|exact Kk|refine Kl ?_ ?_|(refine Km ?_;first|refine Kn ?_|(refine Ko ?_;intro _))|(refine Kp ?_;first|refine Kq ?_|refine Kr ?_)|refine Kh ?_)
    clear kx1 kx2 kx3 kw1 kw2 kw3 ks1 ks2 ks3 px1 px2 px3 pw1 pw2 pw3
    generalize σ * X3.proj k=V at *
    generalize σ * W3.proj k=W at *
    rcases Int.lt_trichotomy V 0 with h0|h0|h0
    · have hft:Fit 19 (qI W V):=fit_qI (by omega) (by omega) (by omega)
      (repeat' first|(refine Ka ?_;first|refine Kb ?_|(refine Kc ?_;intro _))|refine Kd ?_|(refine Ki ?_;refine Kj ?_)|exact Kk|refine Kl ?_ ?_|(refine Km ?_;first|refine Kn ?_|(refine Ko ?_;intro _))|(refine Kp ?_;first|refine Kq ?_|refine Kr ?_)|refine Kh ?_)
      refine TL.callv rfl rfl rfl rfl (ofRef_ok (n:=W) (d:=V) (by omega) (by omega) (by omega)) ?_
      rintro _ _ ⟨rfl,rfl⟩
      (repeat' first|(refine Ka ?_;first|refine Kb ?_|(refine Kc ?_;intro _))|refine Kd ?_|refine Kh ?_)
      cases op with
      | true =>
        (repeat' first|(refine Ka ?_;first|refine Kb ?_|(refine Kc ?_;intro _))|refine Kd ?_|refine Kh ?_)
        exact Post.round (3,⟨lo,qI W V,false⟩) ⟨⟨hlo,hft⟩,.inr (.inr (.inr ⟨rfl,(by rw [hI];exact cutW_high h0 (.inl rfl))⟩))⟩ (by simp only;omega) (by (exact Sub.au)) (by (exact Ents.au))
      | false =>
        (repeat' first|(refine Ka ?_;first|refine Kb ?_|(refine Kc ?_;intro _))|refine Kd ?_|refine Kh ?_)
        refine TL.callv rfl rfl rfl rfl (less36_ok hft hhi) ?_
        rintro _ _ ⟨rfl,rfl⟩
        by_cases hl:qI W V < hi
        · rw [decide_eq_true hl]
          (repeat' first|(refine Ka ?_;first|refine Kb ?_|(refine Kc ?_;intro _))|refine Kd ?_|refine Kh ?_)
          exact Post.round (3,⟨lo,qI W V,false⟩) ⟨⟨hlo,hft⟩,.inr (.inr (.inr ⟨rfl,(by rw [hI];exact cutW_high h0 (.inr hl))⟩))⟩ (by simp only;omega) (by (exact Sub.au)) (by (exact Ents.au))
        · rw [decide_eq_false hl]
          (repeat' first|(refine Ka ?_;first|refine Kb ?_|(refine Kc ?_;intro _))|refine Kd ?_|refine Kh ?_)
          exact Post.round (3,⟨lo,hi,false⟩) ⟨⟨hlo,hhi⟩,.inr (.inr (.inr ⟨rfl,(by rw [hI];exact cutW_highN h0 (by rintro (h|h);cases h;exact hl h))⟩))⟩ (by simp only;omega) (by (exact Sub.au)) (by (exact Ents.au))
    · subst h0
      by_cases hw:0 < W
      · (repeat' first|(refine Ka ?_;first|refine Kb ?_|(refine Kc ?_;intro _))|refine Kd ?_|refine Kh ?_)
        (refine Post.ra ?_)
        refine ⟨As,?_,by (exact Ents.au)⟩
        rw [hI,show (some (⟨lo,hi,op⟩:Spn)).bind (fun s=>cutR s (-W) 0)=none from cutW_none hw,Option.bind_none,Option.map_none]
        exact MetR.none (x:=[]) (y:=[])
      · (repeat' first|(refine Ka ?_;first|refine Kb ?_|(refine Kc ?_;intro _))|refine Kd ?_|refine Kh ?_)
        exact Post.round (3,⟨lo,hi,op⟩) ⟨⟨hlo,hhi⟩,.inr (.inr (.inr ⟨rfl,(by rw [hI];exact cutW_zero hw)⟩))⟩ (by simp only;omega) (by (exact Sub.au)) (by (exact Ents.au))
    · have hft:Fit 19 (qI W V):=fit_qI (by omega) (by omega) (by omega)
      (repeat' first|(refine Ka ?_;first|refine Kb ?_|(refine Kc ?_;intro _))|refine Kd ?_|refine Kh ?_)
      refine TL.callv rfl rfl rfl rfl (ofRef_ok (n:=W) (d:=V) (by omega) (by omega) (by omega)) ?_
      rintro _ _ ⟨rfl,rfl⟩
      (repeat' first|(refine Ka ?_;first|refine Kb ?_|(refine Kc ?_;intro _))|refine Kd ?_|refine Kh ?_)
      refine TL.callv rfl rfl rfl rfl (less36_ok hlo hft) ?_
      rintro _ _ ⟨rfl,rfl⟩
      by_cases hl:lo < qI W V
      · rw [decide_eq_true hl]
        (repeat' first|(refine Ka ?_;first|refine Kb ?_|(refine Kc ?_;intro _))|refine Kd ?_|refine Kh ?_)
        exact Post.round (3,⟨qI W V,hi,op⟩) ⟨⟨hft,hhi⟩,.inr (.inr (.inr ⟨rfl,(by rw [hI];exact cutW_low h0 hl)⟩))⟩ (by simp only;omega) (by (exact Sub.au)) (by (exact Ents.au))
      · rw [decide_eq_false hl]
        (repeat' first|(refine Ka ?_;first|refine Kb ?_|(refine Kc ?_;intro _))|refine Kd ?_|refine Kh ?_)
        exact Post.round (3,⟨lo,hi,op⟩) ⟨⟨hlo,hhi⟩,.inr (.inr (.inr ⟨rfl,(by rw [hI];exact cutW_lowN h0 hl)⟩))⟩ (by simp only;omega) (by (exact Sub.au)) (by (exact Ents.au))
  · show Tri _ _ _ _ [(1,.int .i64 (k:Int)),(2,.int .i64 σ),(5,.pointer (some ⟨b5,0,none⟩)),(8,.pointer (some ⟨b8,0,none⟩)),(10,.pointer (some ⟨b10,0,none⟩)),(12,.pointer (some ⟨b12,0,none⟩)),(14,.pointer (some ⟨b14,0,none⟩)),(16,.bool (!op)),(17,.int .i64 3)] (.cl b14 [.string ⟨(tN hi).toArray⟩,.string ⟨(tD hi).toArray⟩] 49::.cl b12 [.string ⟨(tN lo).toArray⟩,.string ⟨(tD lo).toArray⟩] 49::.cl b10 [.string ⟨#[]⟩,.string ⟨#[]⟩] 49::.cl b8 [.int .i64 v.x,.int .i64 v.y,.int .i64 v.z] 31::.cl b5 [.int .i64 a.x,.int .i64 a.y,.int .i64 a.z,.int .i64 b.x,.int .i64 b.y,.int .i64 b.z,.int .i64 c.x,.int .i64 c.y,.int .i64 c.z] 38::As) _
    rw [hI]
    clear hI kx1 kx2 kx3 kw1 kw2 kw3 ks1 ks2 ks3
    (repeat' first|(refine Ka ?_;first|refine Kb ?_|(refine Kc ?_;intro _))|refine Kd ?_|refine Kh ?_)
    refine Tri.dw [.cl b14 [.string ⟨(tN hi).toArray⟩,.string ⟨(tD hi).toArray⟩] 49,.cl b12 [.string ⟨(tN lo).toArray⟩,.string ⟨(tD lo).toArray⟩] 49] [] (.take 0 (.take 1 (.take 2 (.take 3 (.take 4 (.take 5 (.all [(6,.take 7 (.take 8 (.all [(9,.take 10 (.done))])))]))))))) ?_
    (repeat' first|(refine Ka ?_;first|refine Kb ?_|(refine Kc ?_;intro _))|refine Kd ?_|(refine Ki ?_;refine Kj ?_)|exact Kk|refine Kl ?_ ?_|(refine Km ?_;first|refine Kn ?_|(refine Ko ?_;intro _))|(refine Kp ?_;first|refine Kq ?_|refine Kr ?_)|refine Kh ?_)
    cases op with
    | true =>
      (repeat' first|(refine Ka ?_;first|refine Kb ?_|(refine Kc ?_;intro _))|refine Kd ?_|(refine Ki ?_;refine Kj ?_)|exact Kk|refine Kl ?_ ?_|(refine Km ?_;first|refine Kn ?_|(refine Ko ?_;intro _))|(refine Kp ?_;first|refine Kq ?_|refine Kr ?_)|refine Kh ?_)
      (refine Post.ra ?_)
      refine ⟨As,?_,by (exact Ents.au)⟩
      rw [Option.bind_some,if_pos (.inl rfl)]
      exact MetR.some (t:=lo)
    | false =>
      (repeat' first|(refine Ka ?_;first|refine Kb ?_|(refine Kc ?_;intro _))|refine Kd ?_|(refine Ki ?_;refine Kj ?_)|exact Kk|refine Kl ?_ ?_|(refine Km ?_;first|refine Kn ?_|(refine Ko ?_;intro _))|(refine Kp ?_;first|refine Kq ?_|refine Kr ?_)|refine Kh ?_)
      refine T1.callv rfl rfl rfl rfl rfl (less36_ok hhi hlo) ?_
      rintro _ _ ⟨rfl,rfl⟩
      by_cases hl:hi < lo
      · rw [decide_eq_true hl]
        (repeat' first|(refine Ka ?_;first|refine Kb ?_|(refine Kc ?_;intro _))|refine Kd ?_|(refine Ki ?_;refine Kj ?_)|exact Kk|refine Kl ?_ ?_|(refine Km ?_;first|refine Kn ?_|(refine Ko ?_;intro _))|(refine Kp ?_;first|refine Kq ?_|refine Kr ?_)|refine Kh ?_)
        (refine Post.ra ?_)
        refine ⟨As,?_,by (exact Ents.au)⟩
        rw [Option.bind_some,if_neg (by rintro (h|h);cases h;exact Rat.not_lt.2 h hl)]
        exact MetR.none (x:=tN lo) (y:=tD lo)
      · rw [decide_eq_false hl]
        (repeat' first|(refine Ka ?_;first|refine Kb ?_|(refine Kc ?_;intro _))|refine Kd ?_|(refine Ki ?_;refine Kj ?_)|exact Kk|refine Kl ?_ ?_|(refine Km ?_;first|refine Kn ?_|(refine Ko ?_;intro _))|(refine Kp ?_;first|refine Kq ?_|refine Kr ?_)|refine Kh ?_)
        (refine Post.ra ?_)
        refine ⟨As,?_,by (exact Ents.au)⟩
        rw [Option.bind_some,if_pos (.inr (Rat.not_lt.1 hl))]
        exact MetR.some (t:=lo)
end Go.Proofs.YtgapnfaakdjpaaaGreatDoor

/- Walks: InsideFirst. -/
import Derived.Test.YtgapnfaakdjpaaaGreatDoorIm2
import Derived.Test.YtgapnfaakdjpaaaGreatDoorJr1
import Derived.Test.YtgapnfaakdjpaaaGreatDoorIxa
import Derived.Test.YtgapnfaakdjpaaaGreatDoorJq1
import Derived.Test.YtgapnfaakdjpaaaGreatDoorIj1
import Derived.Test.YtgapnfaakdjpaaaGreatDoorMr5
namespace Go.Sx
open Go
theorem step_in (a:Int):-3999≤a.tmod 4000∧a.tmod 4000≤3999:=by
  rcases Int.le_total 0 a with h|h
  · rw [Int.tmod_eq_emod_of_nonneg h];omega
  · have:=Int.neg_tmod a 4000
    rw [Int.tmod_eq_emod_of_nonneg (show 0≤-a by omega)] at this
    omega
theorem frac_eq {r s:Rat} (hr:Fit 600 r) (hs:Fit 600 s):(tN r=tN s∧tD r=tD s)↔r=s:=by
  constructor
  · rintro ⟨h1,h2⟩
    have k1:=hr.rd
    rw [h1,h2,hs.rd] at k1
    exact (Option.some.inj k1).symm
  · rintro rfl;exact ⟨rfl,rfl⟩
theorem sideW_two {P F:List V3} {p:V3} (hg:Good P F) (hp:isFar p=false):(sideW P F p).2=0:=by
  have f1:(flawM P F).1=0:=okM_good.2 hg
  unfold sideW
  rw [f1,hp]
  simp only [ne_eq,not_true_eq_false,if_false,Bool.false_eq_true]
  (repeat' split)<;>rfl
theorem ray_fit {P F:List V3} {a b:V3} {t:Rat} {j:Nat} (hg:Good P F) (ha:isFar a=false) (hb:isFar b=false) (hab:a≠b) (h:rayM metP P F a b false=some (t,j)):Fit 600 t:=by
  have hd:b.sub a≠V3.zero:=by
    intro h
    apply hab
    rw [V3.eq_iff]
    simp only [V3.sub,V3.zero,V3.mk.injEq] at h
    omega
  have hs:=firstK_spec (g:=fun f=>metP false (relV P a f.x) (relV P a f.y) (relV P a f.z) (b.sub a)) (F:=F) (k:=F.length) (Nat.le_refl _)
  obtain ⟨_,⟨f,hf,hm⟩,_⟩:=hs.2 t j h
  obtain ⟨n1,n2,n3⟩:=(hg.see ha).rel (List.mem_of_getElem? hf)
  exact (metP_fit n1 n2 n3 (sub_in (far_in hb) (far_in ha)) hd hm).mono (by decide)
end Go.Sx
namespace Go.Proofs.YtgapnfaakdjpaaaGreatDoor
open Go Go.Sx
variable {w0:World} {As:List Ent} {pv fv:Value} {pts fcs:List V3}
theorem frzF {T U:TypeId} {R:List Ent} {a b:Value} {xs ys:List V3}:Ents (.ow cV3 T a xs::.ow cV3 U b ys::R) (.ft (rd cV3 a xs)::.ft (rd cV3 b ys)::R) :=
  Ents.trans Ents.freeze (Ents.trans (Ents.perm (List.Perm.swap _ _ _)) (Ents.trans Ents.freeze (Ents.perm (List.Perm.swap _ _ _))))
set_option maxRecDepth 100000 in
set_option maxHeartbeats 8000000 in
theorem insideFirst_ok (ht:Tab w0) (d:DraftA) (hd:d.ok) {y:PlaceA} (hy:y.ok) {s0 s1 s2:Int} (hs:(-32768≤s0∧s0≤32767)∧(-32768≤s1∧s1≤32767)∧(-32768≤s2∧s2≤32767)) {m:Int} (hm:0≤m∧m≤255) [RdIn As d.ov Int (cI .i8) d.off] :
    CallsS Tryz.prog w0 7 [.agg d.cells.toArray,.agg y.cells.toArray,.agg #[.int .i16 s0,.int .i16 s1,.int .i16 s2],.int .u8 m] As fun u _=>u=.bool true:=by
  have hg:=okM_good.1 (d.good hd)
  refine CallsS.rdOne d.ov (xs:=d.off) (c:=cI .i8) fun hov=>?_
  refine CallsS.of_tri Tryz.func7 rfl Tryz.ntmps7 rfl ?_
  show Tri _ _ _ _ (env0 0 [.agg #[.int .u8 d.kd,.int .u8 d.sz,.int .i16 d.a0,.int .i16 d.a1,.int .i16 d.a2,d.ov,.bool d.tn],.agg #[.int .u8 y.a0,.int .u8 y.a1,.int .u8 y.a2,.int .u8 y.w0,.int .u8 y.w1,.int .u8 y.w2,.int .i16 y.o0,.int .i16 y.o1,.int .i16 y.o2],.agg #[.int .i16 s0,.int .i16 s1,.int .i16 s2],.int .u8 m]) _ _
  (repeat' first|(refine Ka ?_;first|refine Kb ?_|(refine Kc ?_;intro _))|refine Kd ?_|refine Kh ?_)
  refine TL.call rfl rfl rfl (works36_ok ht) ?_
  rintro _ _ ⟨rfl,rfl⟩
  (repeat' first|(refine Ka ?_;first|refine Kb ?_|(refine Kc ?_;intro _))|refine Kd ?_|refine Kh ?_)
  refine TL.callv rfl rfl rfl rfl (draftA_ok d hd) ?_
  rintro _ _ ⟨pv,fv,rfl,o1,o2,rfl⟩
  generalize d.mesh.1=P at *
  generalize d.mesh.2=F at *
  refine TL.ents frzF ?_
  refine TL.rdSl (c:=cV3) (xs:=P) pv fun pa ca e1=>TL.rdSl (c:=cV3) (xs:=F) fv fun pb cb e2=>?_
  subst e1 e2
  have hl4:=hg.p4
  have hl3:=hg.p300
  have hlf:=hg.f600
  (repeat' first|(refine Ka ?_;first|refine Kb ?_|(refine Kc ?_;intro _))|refine Kd ?_|refine Kh ?_)
  refine TL.callv rfl rfl rfl rfl (point_ok (x:=y) (pv:=.slice pa P.length ca) (fv:=.slice pb F.length cb) hy hg) ?_
  rintro _ _ ⟨a,ha,rfl,rfl⟩
  show TL _ _ _ _ _ ((_,.agg #[.int .i64 a.x,.int .i64 a.y,.int .i64 a.z])::_) _ _
  have np:=isFar_no.1 ha
  have hn:1≤1+m % 12∧1+m % 12≤12:=by omega
  have r0:=step_in s0
  have r1:=step_in s1
  have r2:=step_in s2
  have m0:=mul_in (m:=12) (n:=3999) (by decide) (by decide) (show -12≤1+m % 12 by omega) hn.2 r0.1 r0.2
  have m1:=mul_in (m:=12) (n:=3999) (by decide) (by decide) (show -12≤1+m % 12 by omega) hn.2 r1.1 r1.2
  have m2:=mul_in (m:=12) (n:=3999) (by decide) (by decide) (show -12≤1+m % 12 by omega) hn.2 r2.1 r2.2
  (repeat' first|(refine Ka ?_;first|refine Kb ?_|(refine Kc ?_;intro _))|refine Kd ?_|refine Kh ?_)
  clear hs hd
  generalize s0.tmod 4000=v0 at *
  generalize s1.tmod 4000=v1 at *
  generalize s2.tmod 4000=v2 at *
  generalize 1+m % 12=n at *
  refine TL.callv rfl rfl rfl rfl (ray_ok ht (pv:=.slice pa P.length ca) (fv:=.slice pb F.length cb) (pts:=P) (fcs:=F) (p:=a) (q:=a.plus (V3.smul n ⟨v0,v1,v2⟩)) (y:=false)) ?_
  rintro _ _ ⟨rfl,rfl⟩
  obtain ⟨b,hb⟩:∃ b,b=a.plus (V3.smul n ⟨v0,v1,v2⟩):=⟨_,rfl⟩
  have hbx:a.x+n * v0=b.x:=by rw [hb];rfl
  have hby:a.y+n * v1=b.y:=by rw [hb];rfl
  have hbz:a.z+n * v2=b.z:=by rw [hb];rfl
  rw [← hb,hbx,hby,hbz]
  have hf1:(flawM P F).1=0:=okM_good.2 hg
  by_cases hab:a=b
  · rw [show rayW P F a b false=.inl 2 by unfold rayW;rw [if_neg (fun h=>h hf1),if_pos (.inr (.inr hab))]]
    subst hab
    show TL _ _ _ _ _ ((_,.tuple #[.agg #[.string ⟨([]:List UInt8).toArray⟩,.string ⟨([]:List UInt8).toArray⟩],.int .i64 0,.int .i64 2])::_) _ _
    (repeat' first|(refine Ka ?_;first|refine Kb ?_|(refine Kc ?_;intro _))|refine Kd ?_|refine Kh ?_)
    rw [show decide ((⟨a.x,a.y,a.z⟩:V3)=⟨a.x,a.y,a.z⟩)=true from decide_eq_true rfl]
    (repeat' first|(refine Ka ?_;first|refine Kb ?_|(refine Kc ?_;intro _))|refine Kd ?_|refine Kh ?_)
    (refine Post.ra ?_)
    exact ⟨_,rfl,Ents.refl _⟩
  have hne:((⟨a.x,a.y,a.z⟩:V3)=⟨b.x,b.y,b.z⟩)=False:=eq_false hab
  cases hbf:isFar b with
  | true =>
    have hfb:=isFar_iff.1 hbf
    rw [show rayW P F a b false=.inl 2 by unfold rayW;rw [if_neg (fun h=>h hf1),if_pos (.inr (.inl hbf))]]
    show TL _ _ _ _ _ ((_,.tuple #[.agg #[.string ⟨([]:List UInt8).toArray⟩,.string ⟨([]:List UInt8).toArray⟩],.int .i64 0,.int .i64 2])::_) _ _
    (repeat' first|(refine Ka ?_;first|refine Kb ?_|(refine Kc ?_;intro _))|refine Kd ?_|refine Kh ?_)
    by_cases c1:b.x < -200000
    · refine Tri.unroll 4 ?_
      (repeat' first|(refine Ka ?_;first|refine Kb ?_|(refine Kc ?_;intro _))|refine Kd ?_|refine Kh ?_)
      (refine Post.ra ?_)
      exact ⟨_,rfl,Ents.refl _⟩
    by_cases c2:200000 < b.x
    · refine Tri.unroll 4 ?_
      (repeat' first|(refine Ka ?_;first|refine Kb ?_|(refine Kc ?_;intro _))|refine Kd ?_|refine Kh ?_)
      (refine Post.ra ?_)
      exact ⟨_,rfl,Ents.refl _⟩
    by_cases c3:b.y < -200000
    · refine Tri.unroll 4 ?_
      (repeat' first|(refine Ka ?_;first|refine Kb ?_|(refine Kc ?_;intro _))|refine Kd ?_|refine Kh ?_)
      (refine Post.ra ?_)
      exact ⟨_,rfl,Ents.refl _⟩
    by_cases c4:200000 < b.y
    · refine Tri.unroll 4 ?_
      (repeat' first|(refine Ka ?_;first|refine Kb ?_|(refine Kc ?_;intro _))|refine Kd ?_|refine Kh ?_)
      (refine Post.ra ?_)
      exact ⟨_,rfl,Ents.refl _⟩
    by_cases c5:b.z < -200000
    · refine Tri.unroll 4 ?_
      (repeat' first|(refine Ka ?_;first|refine Kb ?_|(refine Kc ?_;intro _))|refine Kd ?_|refine Kh ?_)
      (refine Post.ra ?_)
      exact ⟨_,rfl,Ents.refl _⟩
    by_cases c6:200000 < b.z
    · refine Tri.unroll 4 ?_
      (repeat' first|(refine Ka ?_;first|refine Kb ?_|(refine Kc ?_;intro _))|refine Kd ?_|refine Kh ?_)
      (refine Post.ra ?_)
      exact ⟨_,rfl,Ents.refl _⟩
    omega
  | false =>
    have nb:=isFar_no.1 hbf
    have hrw:∀ o,rayM metP P F a b false=o→rayW P F a b false=(match o with|none=>Sum.inl 4|some r=>Sum.inr r):=fun o h=>by unfold rayW;rw [if_neg (fun h=>h hf1),if_neg (by rw [ha,hbf];simp [hab]),h];cases o<;>rfl
    have hfirst:=fun (i:Int) (h0:0≤i) (h1:i≤n)=>first_at (P:=P) (F:=F) (a:=a) (v:=⟨v0,v1,v2⟩) (n:=n) (i:=i) hg (by omega) h0 h1 ha (by rw [← hb];exact hbf) (by rw [← hb];exact hab)
    have hzero:=first_zero (P:=P) (F:=F) (a:=a) (v:=⟨v0,v1,v2⟩) (n:=n) hg (by omega) ha (by rw [← hb];exact hab)
    rw [← hb] at hzero
    simp only [← hb] at hfirst
    have hfit:=fun t j=>ray_fit (P:=P) (F:=F) (a:=a) (b:=b) (t:=t) (j:=j) hg ha hbf hab
    have hS2:=sideW_two hg ha
    cases hr:rayM metP P F a b false with
    | none =>
      replace hrw:=hrw none hr
      rw [hr] at hzero
      rw [hrw]
      show TL _ _ _ _ _ ((_,.tuple #[.agg #[.string ⟨([]:List UInt8).toArray⟩,.string ⟨([]:List UInt8).toArray⟩],.int .i64 0,.int .i64 4])::_) _ _
      (repeat' first|(refine Ka ?_;first|refine Kb ?_|(refine Kc ?_;intro _))|refine Kd ?_|refine Kh ?_)
      refine Tri.unroll 4 ?_
      (repeat' first|(refine Ka ?_;first|refine Kb ?_|(refine Kc ?_;intro _))|refine Kd ?_|refine Kh ?_)
      refine TL.callv rfl rfl rfl rfl (side_ok ht (pv:=.slice pa P.length ca) (fv:=.slice pb F.length cb) (pts:=P) (fcs:=F) (p:=a)) ?_
      rintro _ _ ⟨rfl,rfl⟩
      rw [hS2]
      generalize hs:(sideW P F a).1=s at *
      have hs1:s≠1:=fun h=>by
        obtain ⟨j,hj⟩:=hzero.1 h
        cases hj
      (repeat' first|(refine Ka ?_;first|refine Kb ?_|(refine Kc ?_;intro _))|refine Kd ?_|refine Kh ?_)
      rename_i b3 b4 b5 b9 b10 b12 b13 b14
      refine Tri.loop (ι:=Nat) (fun i=>(i:Int)≤n+1) (fun i=>(n+1 - i).toNat)
        (fun i=>[(9,.pointer (some ⟨b9,0,none⟩)),(10,.pointer (some ⟨b10,0,none⟩)),(11,.int .i64 n),(12,.pointer (some ⟨b12,0,none⟩)),(14,.pointer (some ⟨b14,0,none⟩)),(16,.int .i64 4),(18,.int .i64 s),(20,.int .i64 (i:Int))])
        (fun i=>.cl b14 [.string ⟨([]:List UInt8).toArray⟩,.string ⟨([]:List UInt8).toArray⟩] 49::.cl b12 [.int .i64 v0,.int .i64 v1,.int .i64 v2] 31::.cl b10 [.int .i64 a.x,.int .i64 a.y,.int .i64 a.z] 31::.cl b9 [.slice pa P.length ca,.slice pb F.length cb] 34::.ft (rd cV3 (.slice pa P.length ca) P)::.ft (rd cV3 (.slice pb F.length cb) F)::As) 0 (by omega) (by (exact Sub.au)) (by (exact Ents.au)) ?_
      intro i hi
      (repeat' first|(refine Ka ?_;first|refine Kb ?_|(refine Kc ?_;intro _))|refine Kd ?_|refine Kh ?_)
      ((show Tri _ _ _ (.cond _ _ _) _ _ _;first|refine Tri.condP rfl (fun hc=>?_) (fun hc=>?_)|refine Tri.condN rfl (fun hc=>?_) (fun hc=>?_)))
      · obtain ⟨k1,k2,k3⟩:=hfirst (i:Int) (by omega) (by omega)
        have l0:=mul_in (m:=12) (n:=3999) (a:=(i:Int)) (by decide) (by decide) (by omega) (by omega) r0.1 r0.2
        have l1:=mul_in (m:=12) (n:=3999) (a:=(i:Int)) (by decide) (by decide) (by omega) (by omega) r1.1 r1.2
        have l2:=mul_in (m:=12) (n:=3999) (a:=(i:Int)) (by decide) (by decide) (by omega) (by omega) r2.1 r2.2
        (repeat' first|(refine Ka ?_;first|refine Kb ?_|(refine Kc ?_;intro _))|refine Kd ?_|refine Kh ?_)
        refine TL.callv rfl rfl rfl rfl (ofRef_ok (n:=(i:Int)) (d:=n) (by omega) (by omega) (by omega)) ?_
        rintro _ _ ⟨rfl,rfl⟩
        (repeat' first|(refine Ka ?_;first|refine Kb ?_|(refine Kc ?_;intro _))|refine Kd ?_|refine Kh ?_)
        refine TL.callv rfl rfl rfl rfl (side_ok ht (pv:=.slice pa P.length ca) (fv:=.slice pb F.length cb) (pts:=P) (fcs:=F) (p:=a.plus (V3.smul (i:Int) ⟨v0,v1,v2⟩))) ?_
        rintro _ _ ⟨rfl,rfl⟩
        rw [k1]
        obtain ⟨k4,k5⟩:=k2 hr
        rw [k4,hs]
        clear k1 k2 k3 k4 k5 hfirst hzero hfit
        (repeat' first|(refine Ka ?_;first|refine Kb ?_|(refine Kc ?_;intro _))|refine Kd ?_|refine Kh ?_)
        exact Post.round (i+1) (by omega) (by omega) (by (exact Sub.au)) (by (exact Ents.au))
      · clear hfirst hfit
        (repeat' first|(refine Ka ?_;first|refine Kb ?_|(refine Kc ?_;intro _))|refine Kd ?_|refine Kh ?_)
        refine TL.callv rfl rfl rfl rfl (ofRef_ok (n:=0) (d:=1) (by omega) (by omega) (by omega)) ?_
        rintro _ _ ⟨rfl,rfl⟩
        (repeat' first|(refine Ka ?_;first|refine Kb ?_|(refine Kc ?_;intro _))|refine Kd ?_|refine Kh ?_)
        (refine Post.ra ?_)
        exact ⟨_,by simp [hs1],Ents.refl _⟩
    | some q =>
      obtain ⟨t,j⟩:=q
      replace hrw:=hrw (some (t,j)) hr
      rw [hr] at hzero
      have hft:=hfit t j hr
      have hjl:=((ray_meet hg hab).1 t j hr).1
      rw [hrw]
      show TL _ _ _ _ _ ((_,.tuple #[.agg #[.string ⟨(tN t).toArray⟩,.string ⟨(tD t).toArray⟩],.int .i64 (j:Int),.int .i64 0])::_) _ _
      (repeat' first|(refine Ka ?_;first|refine Kb ?_|(refine Kc ?_;intro _))|refine Kd ?_|refine Kh ?_)
      refine Tri.unroll 4 ?_
      (repeat' first|(refine Ka ?_;first|refine Kb ?_|(refine Kc ?_;intro _))|refine Kd ?_|refine Kh ?_)
      refine TL.callv rfl rfl rfl rfl (side_ok ht (pv:=.slice pa P.length ca) (fv:=.slice pb F.length cb) (pts:=P) (fcs:=F) (p:=a)) ?_
      rintro _ _ ⟨rfl,rfl⟩
      rw [hS2]
      generalize hs:(sideW P F a).1=s at *
      (repeat' first|(refine Ka ?_;first|refine Kb ?_|(refine Kc ?_;intro _))|refine Kd ?_|refine Kh ?_)
      rename_i b3 b4 b5 b9 b10 b12 b13 b14
      refine Tri.loop (ι:=Nat) (fun i=>(i:Int)≤n+1) (fun i=>(n+1 - i).toNat)
        (fun i=>[(9,.pointer (some ⟨b9,0,none⟩)),(10,.pointer (some ⟨b10,0,none⟩)),(11,.int .i64 n),(12,.pointer (some ⟨b12,0,none⟩)),(14,.pointer (some ⟨b14,0,none⟩)),(16,.int .i64 0),(18,.int .i64 s),(20,.int .i64 (i:Int))])
        (fun i=>.cl b14 [.string ⟨(tN t).toArray⟩,.string ⟨(tD t).toArray⟩] 49::.cl b12 [.int .i64 v0,.int .i64 v1,.int .i64 v2] 31::.cl b10 [.int .i64 a.x,.int .i64 a.y,.int .i64 a.z] 31::.cl b9 [.slice pa P.length ca,.slice pb F.length cb] 34::.ft (rd cV3 (.slice pa P.length ca) P)::.ft (rd cV3 (.slice pb F.length cb) F)::As) 0 (by omega) (by (exact Sub.au)) (by (exact Ents.au)) ?_
      intro i hi
      (repeat' first|(refine Ka ?_;first|refine Kb ?_|(refine Kc ?_;intro _))|refine Kd ?_|refine Kh ?_)
      ((show Tri _ _ _ (.cond _ _ _) _ _ _;first|refine Tri.condP rfl (fun hc=>?_) (fun hc=>?_)|refine Tri.condN rfl (fun hc=>?_) (fun hc=>?_)))
      · obtain ⟨k1,k2,k3⟩:=hfirst (i:Int) (by omega) (by omega)
        have l0:=mul_in (m:=12) (n:=3999) (a:=(i:Int)) (by decide) (by decide) (by omega) (by omega) r0.1 r0.2
        have l1:=mul_in (m:=12) (n:=3999) (a:=(i:Int)) (by decide) (by decide) (by omega) (by omega) r1.1 r1.2
        have l2:=mul_in (m:=12) (n:=3999) (a:=(i:Int)) (by decide) (by decide) (by omega) (by omega) r2.1 r2.2
        (repeat' first|(refine Ka ?_;first|refine Kb ?_|(refine Kc ?_;intro _))|refine Kd ?_|refine Kh ?_)
        refine TL.callv rfl rfl rfl rfl (ofRef_ok (n:=(i:Int)) (d:=n) (by omega) (by omega) (by omega)) ?_
        rintro _ _ ⟨rfl,rfl⟩
        (repeat' first|(refine Ka ?_;first|refine Kb ?_|(refine Kc ?_;intro _))|refine Kd ?_|refine Kh ?_)
        refine TL.callv rfl rfl rfl rfl (side_ok ht (pv:=.slice pa P.length ca) (fv:=.slice pb F.length cb) (pts:=P) (fcs:=F) (p:=a.plus (V3.smul (i:Int) ⟨v0,v1,v2⟩))) ?_
        rintro _ _ ⟨rfl,rfl⟩
        rw [k1]
        obtain ⟨k4,k5⟩:=k3 t j hr
        have hfi:Fit 600 (qI (i:Int) n):=(fit_qI (by omega) (by omega) (by omega)).mono (by decide)
        generalize qI (i:Int) n=u at *
        have e1:=ordQ_lt (x:=u) (y:=t)
        have e2:=ordQ_gt (x:=u) (y:=t)
        (repeat' first|(refine Ka ?_;first|refine Kb ?_|(refine Kc ?_;intro _))|refine Kd ?_|refine Kh ?_)
        refine TL.callv rfl rfl rfl rfl (cmp02_ok hfi hft) ?_
        rintro _ _ ⟨rfl,rfl⟩
        generalize ordQ u t=o at *
        by_cases o1:o < 0
        · obtain ⟨k6,k7⟩:=k4 (e1.1 o1)
          rw [k6,hs]
          clear k1 k2 k3 k4 k5 k6 hfirst hzero hfit e1 e2
          (repeat' first|(refine Ka ?_;first|refine Kb ?_|(refine Kc ?_;intro _))|refine Kd ?_|refine Kh ?_)
          exact Post.round (i+1) (by omega) (by omega) (by (exact Sub.au)) (by (exact Ents.au))
        by_cases o2:o=0
        · have k6:=k5 (Rat.le_antisymm (Rat.not_lt.1 fun h=>by have:=e2.2 h;omega) (Rat.not_lt.1 fun h=>by have:=e1.2 h;omega))
          rw [k6]
          clear k1 k2 k3 k4 k5 k6 hfirst hzero hfit e1 e2
          (repeat' first|(refine Ka ?_;first|refine Kb ?_|(refine Kc ?_;intro _))|refine Kd ?_|refine Kh ?_)
          exact Post.round (i+1) (by omega) (by omega) (by (exact Sub.au)) (by (exact Ents.au))
        · clear k1 k2 k3 k4 k5 hfirst hzero hfit e1 e2
          (repeat' first|(refine Ka ?_;first|refine Kb ?_|(refine Kc ?_;intro _))|refine Kd ?_|refine Kh ?_)
          exact Post.round (i+1) (by omega) (by omega) (by (exact Sub.au)) (by (exact Ents.au))
      · clear hfirst hfit
        (repeat' first|(refine Ka ?_;first|refine Kb ?_|(refine Kc ?_;intro _))|refine Kd ?_|refine Kh ?_)
        refine TL.callv rfl rfl rfl rfl (ofRef_ok (n:=0) (d:=1) (by omega) (by omega) (by omega)) ?_
        rintro _ _ ⟨rfl,rfl⟩
        rw [qI_zero]
        (repeat' first|(refine Ka ?_;first|refine Kb ?_|(refine Kc ?_;intro _))|refine Kd ?_|refine Kh ?_)
        refine TL.f rfl rfl (ExF.eqlFr rfl rfl) ?_
        (repeat' first|(refine Ka ?_;first|refine Kb ?_|(refine Kc ?_;intro _))|refine Kd ?_|refine Kh ?_)
        (refine Post.ra ?_)
        refine ⟨_,?_,Ents.refl _⟩
        have hz:=frac_eq hft (fit0.mono (by decide))
        rw [Value.bool.injEq,decide_eq_true_eq,decide_eq_decide,hzero,hz]
        simp
end Go.Proofs.YtgapnfaakdjpaaaGreatDoor

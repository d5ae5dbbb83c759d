/- Walks: IntentOrder. -/
import Derived.Test.YtngcfjfaobcpmaaGreatDoorNl4
import Derived.Test.YtngcfjfaobcpmaaGreatDoorNq1
set_option maxHeartbeats 1000000
namespace Go.Sx
open Go
theorem Yh9 {P:Program} {N:Ctx} {w0:World} {ops:Array Oper} {o:Oper} {r l':List Oper} {e e':Env} {As As':List Ent} {Q:Exit→Act→World→Prop} (k:TL P N w0 ops l' e' As' Q) (hs:LTo P N w0 ops (o::r) e As l' e' As':=by first|exact Zun|exact LTo.us|exact LTo.ds|exact LTo.os|exact Zon|fail):TL P N w0 ops (o::r) e As Q:=hs.h Q k
end Go.Sx
namespace Go.Proofs.YtngcfjfaobcpmaaGreatDoor
open Go Go.Sx
variable {w0:World} {As:List Ent} {pv fv:Value} {pts fcs:List V3}
set_option maxRecDepth 100000 in
set_option maxHeartbeats 4000000 in
theorem Zoz (ht:Tab w0) (he:ErrR w0) (d:DraftA) (hd:d.ok) {l:Int} (hl:0≤l∧l≤65535) {s0 s1 f0 f1 m n:Int} (hs0:-128≤s0∧s0≤127) (hs1:-128≤s1∧s1≤127) (hf0:0≤f0∧f0≤255) (hf1:0≤f1∧f1≤255) (hm:0≤m∧m≤65535) (hn:0≤n∧n≤65535) [RdIn As d.ov Int (cI .i8) d.off] :
  CallsS Tryz.prog w0 7 [.agg (d.cells++[Value.int .u16 l]).toArray,.agg #[.int .i8 s0,.int .i8 s1],.agg #[.int .u8 f0,.int .u8 f1],.agg #[.int .u16 m,.int .u16 n]] As fun u _=>u=.bool true:=by
 have k00:=Zq1 hf0 hs0
 have k01:=Zq1 hf0 hs1
 have k10:=Zq1 hf1 hs0
 have k11:=Zq1 hf1 hs1
 refine Zak d.ov (xs:=d.off) (c:=cI .i8) fun hov=>?_
 refine Zab Tryz.func7 rfl Tryz.ntmps7 rfl ?_
 show Tri _ _ _ _ (env0 0 [.agg #[.int .u8 d.kd,.int .u8 d.sz,.int .i16 d.a0,.int .i16 d.a1,.int .i16 d.a2,d.ov,.bool d.tn,.int .u16 l],.agg #[.int .i8 s0,.int .i8 s1],.agg #[.int .u8 f0,.int .u8 f1],.agg #[.int .u16 m,.int .u16 n]]) _ _
 repeat' first|refine Kz ?_|intro _
 rename_i b4 b5 b6 b7
 refine Kt rfl (Zey ht he) ?_
 repeat' first|refine Kz ?_|intro _
 refine TL.callv rfl rfl rfl rfl (Zmm d hd hl) ?_
 rintro _ _ ⟨P,F,hg,pv,fv,rfl,o1,o2,rfl⟩
 refine TL.ents Yey ?_
 refine Zbn (c:=cV3) (xs:=P) pv fun pa ca e1=>Zbn (c:=cV3) (xs:=F) fv fun pb cb e2=>?_
 subst e1 e2
 repeat' first|refine Kz ?_|intro _
 rename_i b9
 refine TL.callv rfl rfl rfl rfl (Zwu ht he (pv:=.slice pa P.length ca) (fv:=.slice pb F.length cb) (pts:=P) (fcs:=F)) ?_
 cases hx:extO P F with
 | none =>
  rw [Z41 hg hx]
  rintro _ _ ⟨rfl,rfl⟩
  show TL _ _ _ _ _ ((_,.tuple #[.int .i64 0,.int .i64 0,.int .i64 4])::_) _ _
  repeat' first|refine Kz ?_|intro _
  (refine Zac ?_)
  exact ⟨_,rfl,Ents.refl _⟩
 | some lh =>
  obtain ⟨lo,hi⟩:=lh
  obtain ⟨x0,x1,x2⟩:=Zyn hg hx
  rw [Z40 hg hx]
  rintro _ _ ⟨rfl,rfl⟩
  show TL _ _ _ _ _ ((_,.tuple #[.int .i64 lo,.int .i64 hi,.int .i64 0])::_) _ _
  repeat' first|refine Kz ?_|intro _
  rename_i b14
  obtain ⟨L,hL⟩:∃ L,L=(lo+hi) / 2:=⟨_,rfl⟩
  have hLr:0≤L∧L≤100000:=by omega
  rw [← hL]
  obtain ⟨w,hw⟩:∃ w:V3,w=⟨L,5 * s0,5 * s1⟩:=⟨_,rfl⟩
  obtain ⟨p,hp⟩:∃ p:V3,p=⟨L,f0 * (5 * s0),f0 * (5 * s1)⟩:=⟨_,rfl⟩
  obtain ⟨q,hq⟩:∃ q:V3,q=⟨L,f1 * (5 * s0),f1 * (5 * s1)⟩:=⟨_,rfl⟩
  have hw1:w.x=L:=by rw [hw]
  have hw2:w.y=5 * s0:=by rw [hw]
  have hw3:w.z=5 * s1:=by rw [hw]
  have hp1:p.x=L:=by rw [hp]
  have hp2:p.y=f0 * (5 * s0):=by rw [hp]
  have hp3:p.z=f0 * (5 * s1):=by rw [hp]
  have hq1:q.x=L:=by rw [hq]
  have hq2:q.y=f1 * (5 * s0):=by rw [hq]
  have hq3:q.z=f1 * (5 * s1):=by rw [hq]
  refine Tri.mid (fun e' As'=>∃ b15 b16,e'=[(5,.pointer (some ⟨b5,0,none⟩)),(6,.pointer (some ⟨b6,0,none⟩)),(7,.pointer (some ⟨b7,0,none⟩)),(9,.pointer (some ⟨b9,0,none⟩)),(13,.int .i64 L),(14,.pointer (some ⟨b14,0,none⟩)),(15,.pointer (some ⟨b15,0,none⟩)),(16,.pointer (some ⟨b16,0,none⟩))]∧As'=.cl b16 [.int .i64 q.x,.int .i64 q.y,.int .i64 q.z] 33::.cl b15 [.int .i64 p.x,.int .i64 p.y,.int .i64 p.z] 33::.cl b14 [.int .i64 w.x,.int .i64 w.y,.int .i64 w.z] 33::.cl b9 [.slice pa P.length ca,.slice pb F.length cb] 36::.cl b7 [.int .u16 m,.int .u16 n] 59::.cl b6 [.int .u8 f0,.int .u8 f1] 78::.cl b5 [.int .i8 s0,.int .i8 s1] 77::.ft (rd cV3 (.slice pa P.length ca) P)::.ft (rd cV3 (.slice pb F.length cb) F)::As) ?_ ?_
  ·simp only [hw1,hw2,hw3,hp1,hp2,hp3,hq1,hq2,hq3]
   refine Zaf [.cl b6 [.int .u8 f0,.int .u8 f1] 78,.cl b14 [.int .i64 L,.int .i64 (5 * s0),.int .i64 (5 * s1)] 33] [] (.take 0 (.take 1 (.take 2 (.take 3 (.take 4 (.take 5 (.take 6 (.take 7 (.take 8 (.take 9 (.take 10 (.take 11 (.take 12 (.take 13 (.take 14 (.take 15 (.take 16 (.take 17 (.take 18 (.take 19 (.take 20 (.take 21 (.take 22 (.take 23 (.take 24 (.take 25 (.take 26 (.take 27 (.all [(28,.all [(29,.all [(30,.all [(31,.done)])])]),(29,.all [(28,.all [(30,.all [(31,.done)])])])]))))))))))))))))))))))))))))) ?_
   repeat' first|refine Kf ?_|intro _|constructor
   all_goals exact Post.cut _ _ ⟨_,_,rfl,rfl⟩ Zad Zaa
  rintro _ _ ⟨b15,b16,rfl,rfl⟩
  repeat' first|refine Kz ?_|intro _
  refine Zaf [.cl b7 [.int .u16 m,.int .u16 n] 59] [] (.take 0 (.take 1 (.take 2 (.take 3 (.take 4 (.take 5 (.take 6 (.take 7 (.take 8 (.take 9 (.take 10 (.done)))))))))))) ?_
  repeat' first|refine Kf ?_|intro _|constructor
  have hpf:isFar p=false:=Zkb.2 (by omega)
  have hqf:isFar q=false:=Zkb.2 (by omega)
  have hwf:isFar w=false:=Zkb.2 (by omega)
  have hab:anchorO P F q=anchorO P F p:=Z8x (hq1.trans hp1.symm)
  cases ha:anchorO P F p with
  | none =>
   rw [ha] at hab
   refine TL.callv rfl rfl rfl rfl (Zdi ht he (pv:=.slice pa P.length ca) (fv:=.slice pb F.length cb) (pts:=P) (fcs:=F) (p:=p)) ?_
   rw [Zh1 hg hpf ha]
   rintro _ _ ⟨rfl,rfl⟩
   show TL _ _ _ _ _ ((_,.tuple #[.agg #[.int .i64 0,.int .i64 0,.int .i64 0],.int .i64 4])::_) _ _
   repeat' first|refine Kz ?_|intro _
   refine TL.callv rfl rfl rfl rfl (Zdi ht he (pv:=.slice pa P.length ca) (fv:=.slice pb F.length cb) (pts:=P) (fcs:=F) (p:=q)) ?_
   rw [Zh1 hg hqf hab]
   rintro _ _ ⟨rfl,rfl⟩
   show TL _ _ _ _ _ ((_,.tuple #[.agg #[.int .i64 0,.int .i64 0,.int .i64 0],.int .i64 4])::_) _ _
   repeat' first|refine Kz ?_|intro _
   refine TL.callv rfl rfl rfl rfl (Zan ht he (pv:=.slice pa P.length ca) (fv:=.slice pb F.length cb) (pts:=P) (fcs:=F) (p:=p) (k:=m % 1000) (m:=1001+n % 9000)) ?_
   rw [Zev hg hpf (by omega) (by omega) (by omega) (by omega) ha]
   rintro _ _ ⟨rfl,rfl⟩
   show TL _ _ _ _ _ ((_,.tuple #[.agg #[.string ⟨#[]⟩,.string ⟨#[]⟩,.string ⟨#[]⟩,.string ⟨#[]⟩,.string ⟨#[]⟩,.string ⟨#[]⟩],.int .i64 4])::_) _ _
   repeat' first|refine Kz ?_|intro _
   refine TL.callv rfl rfl rfl rfl (Zan ht he (pv:=.slice pa P.length ca) (fv:=.slice pb F.length cb) (pts:=P) (fcs:=F) (p:=q) (k:=m % 1000) (m:=1001+n % 9000)) ?_
   rw [Zev hg hqf (by omega) (by omega) (by omega) (by omega) hab]
   rintro _ _ ⟨rfl,rfl⟩
   show TL _ _ _ _ _ ((_,.tuple #[.agg #[.string ⟨#[]⟩,.string ⟨#[]⟩,.string ⟨#[]⟩,.string ⟨#[]⟩,.string ⟨#[]⟩,.string ⟨#[]⟩],.int .i64 4])::_) _ _
   repeat' first|refine Kz ?_|intro _
   (refine Zac ?_)
   exact ⟨_,rfl,Ents.refl _⟩
  | some c =>
   rw [ha] at hab
   obtain ⟨hcf,h2c,cy,cz⟩:=Zcx hg ha
   have hcx:c.x=L:=by rw [Z46 hx ha];unfold anchorV;simp only;omega
   obtain rfl:c=⟨L,0,0⟩:=Za2.2 ⟨hcx,cy,cz⟩
   clear cy cz hcx
   refine TL.callv rfl rfl rfl rfl (Zdi ht he (pv:=.slice pa P.length ca) (fv:=.slice pb F.length cb) (pts:=P) (fcs:=F) (p:=p)) ?_
   rw [Zh0 hg hpf ha]
   rintro _ _ ⟨rfl,rfl⟩
   show TL _ _ _ _ _ ((_,.tuple #[.agg #[.int .i64 L,.int .i64 0,.int .i64 0],.int .i64 0])::_) _ _
   repeat' first|refine Kz ?_|intro _
   rename_i b19
   refine TL.callv rfl rfl rfl rfl (Zdi ht he (pv:=.slice pa P.length ca) (fv:=.slice pb F.length cb) (pts:=P) (fcs:=F) (p:=q)) ?_
   rw [Zh0 hg hqf hab]
   rintro _ _ ⟨rfl,rfl⟩
   show TL _ _ _ _ _ ((_,.tuple #[.agg #[.int .i64 L,.int .i64 0,.int .i64 0],.int .i64 0])::_) _ _
   repeat' first|refine Kz ?_|intro _
   rename_i b21
   have hcc:decide ((⟨L,0,0⟩:V3)=⟨L,0,0⟩)=true:=decide_eq_true rfl
   by_cases hs:s0=0∧s1=0
   ·obtain ⟨rfl,rfl⟩:=hs
    have hpL:p=⟨L,0,0⟩:=by rw [Za2];simp only;omega
    have hqL:q=⟨L,0,0⟩:=by rw [Za2];simp only;omega
    rw [hpL] at ha hpf
    rw [hqL] at hab hqf
    refine TL.callv rfl rfl rfl rfl (Zan ht he (pv:=.slice pa P.length ca) (fv:=.slice pb F.length cb) (pts:=P) (fcs:=F) (p:=p) (k:=m % 1000) (m:=1001+n % 9000)) ?_
    rw [hpL,Zds hg hpf (by omega) (by omega) (by omega) (by omega) ha]
    rintro _ _ ⟨rfl,rfl⟩
    show TL _ _ _ _ _ ((_,.tuple #[.agg #[.string ⟨(tN ((L:Rat))).toArray⟩,.string ⟨(tD ((L:Rat))).toArray⟩,.string ⟨(tN (((0:Int):Rat))).toArray⟩,.string ⟨(tD (((0:Int):Rat))).toArray⟩,.string ⟨(tN (((0:Int):Rat))).toArray⟩,.string ⟨(tD (((0:Int):Rat))).toArray⟩],.int .i64 0])::_) _ _
    repeat' first|refine Kz ?_|intro _
    refine TL.callv rfl rfl rfl rfl (Zan ht he (pv:=.slice pa P.length ca) (fv:=.slice pb F.length cb) (pts:=P) (fcs:=F) (p:=q) (k:=m % 1000) (m:=1001+n % 9000)) ?_
    rw [hqL,Zds hg hqf (by omega) (by omega) (by omega) (by omega) hab]
    rintro _ _ ⟨rfl,rfl⟩
    show TL _ _ _ _ _ ((_,.tuple #[.agg #[.string ⟨(tN ((L:Rat))).toArray⟩,.string ⟨(tD ((L:Rat))).toArray⟩,.string ⟨(tN (((0:Int):Rat))).toArray⟩,.string ⟨(tD (((0:Int):Rat))).toArray⟩,.string ⟨(tN (((0:Int):Rat))).toArray⟩,.string ⟨(tD (((0:Int):Rat))).toArray⟩],.int .i64 0])::_) _ _
    repeat' first|refine Kz ?_|intro _
    rw [hcc]
    repeat' first|refine Kz ?_|intro _
    rw [hcc]
    repeat' first|refine Kz ?_|intro _
    refine TL.f rfl rfl (Za1 rfl rfl) ?_
    rw [Zlr]
    repeat' first|refine Kz ?_|intro _
    (refine Zac ?_)
    exact ⟨_,rfl,Ents.refl _⟩
   ·obtain ⟨v,hve⟩:∃ v:V3,v=⟨0,5 * s0,5 * s1⟩:=⟨_,rfl⟩
    have hv:v≠V3.zero:=fun e=>hs (by rw [hve] at e;have:=Za2.1 e;simp only [V3.zero] at this;omega)
    have hwe:w=V3.plus ⟨L,0,0⟩ v:=by rw [Za2,hve];simp only [V3.plus];omega
    have hpe:p=V3.plus ⟨L,0,0⟩ (V3.smul f0 v):=by rw [Za2,hve];simp only [V3.plus,V3.smul];omega
    have hqe:q=V3.plus ⟨L,0,0⟩ (V3.smul f1 v):=by rw [Za2,hve];simp only [V3.plus,V3.smul];omega
    have hwc:w≠⟨L,0,0⟩:=fun e=>hs (by have:=Za2.1 e;simp only at this;omega)
    obtain ⟨t,j,hr⟩:=Zya (p:=w) hg hcf h2c (fun e=>hwc e.symm)
    have hft:=Zmh hg hcf hwf (fun e=>hwc e.symm) hr
    obtain ⟨u,u',fu,fu',hcu,hcu',hpc,hqc,hu0,hu0',hord,hkn⟩:=Zzy (k:=m % 1000) (m:=1001+n % 9000) hg hcf h2c hv (by rw [← hwe];exact hr) hf0 hf1 hpe hqe hpf hqf ha hab (by omega) (by omega) (by omega) (by omega)
    rw [← hwe] at hcu hcu' hkn
    obtain ⟨bp1,bp2,bp3,bp4,bp5,bp6⟩:=Zb2 hpf
    clear hpe hqe hwe hve hv k00 k01 k10 k11 hL hx x0 x1 x2 hw1 hw2 hw3 hp1 hp2 hp3 hq1 hq2 hq3 hw hp hq hab ha hd hl v lo hi hpf hqf
    refine TL.callv rfl rfl rfl rfl (Zan ht he (pv:=.slice pa P.length ca) (fv:=.slice pb F.length cb) (pts:=P) (fcs:=F) (p:=p) (k:=m % 1000) (m:=1001+n % 9000)) ?_
    rw [hcu]
    rintro _ _ ⟨rfl,rfl⟩
    show TL _ _ _ _ _ ((_,.tuple #[.agg #[.string ⟨(tN ((L:Rat)+u * ((w.x - L:Int):Rat))).toArray⟩,.string ⟨(tD ((L:Rat)+u * ((w.x - L:Int):Rat))).toArray⟩,.string ⟨(tN (((0:Int):Rat)+u * ((w.y - 0:Int):Rat))).toArray⟩,.string ⟨(tD (((0:Int):Rat)+u * ((w.y - 0:Int):Rat))).toArray⟩,.string ⟨(tN (((0:Int):Rat)+u * ((w.z - 0:Int):Rat))).toArray⟩,.string ⟨(tD (((0:Int):Rat)+u * ((w.z - 0:Int):Rat))).toArray⟩],.int .i64 0])::_) _ _
    repeat' first|refine Kz ?_|intro _
    rename_i b23
    refine TL.callv rfl rfl rfl rfl (Zan ht he (pv:=.slice pa P.length ca) (fv:=.slice pb F.length cb) (pts:=P) (fcs:=F) (p:=q) (k:=m % 1000) (m:=1001+n % 9000)) ?_
    rw [hcu']
    rintro _ _ ⟨rfl,rfl⟩
    show TL _ _ _ _ _ ((_,.tuple #[.agg #[.string ⟨(tN ((L:Rat)+u' * ((w.x - L:Int):Rat))).toArray⟩,.string ⟨(tD ((L:Rat)+u' * ((w.x - L:Int):Rat))).toArray⟩,.string ⟨(tN (((0:Int):Rat)+u' * ((w.y - 0:Int):Rat))).toArray⟩,.string ⟨(tD (((0:Int):Rat)+u' * ((w.y - 0:Int):Rat))).toArray⟩,.string ⟨(tN (((0:Int):Rat)+u' * ((w.z - 0:Int):Rat))).toArray⟩,.string ⟨(tD (((0:Int):Rat)+u' * ((w.z - 0:Int):Rat))).toArray⟩],.int .i64 0])::_) _ _
    repeat' first|refine Kz ?_|intro _
    rename_i b25
    rw [hcc]
    repeat' first|refine Kz ?_|intro _
    rw [hcc]
    refine Zle (p:=True) rfl trivial ?_
    iterate 3 refine Stp.h ?_
    refine Tri.mid (fun e' As'=>e'=[(6,.pointer (some ⟨b6,0,none⟩)),(9,.pointer (some ⟨b9,0,none⟩)),(14,.pointer (some ⟨b14,0,none⟩)),(15,.pointer (some ⟨b15,0,none⟩)),(16,.pointer (some ⟨b16,0,none⟩)),(19,.pointer (some ⟨b19,0,none⟩)),(21,.pointer (some ⟨b21,0,none⟩)),(23,.pointer (some ⟨b23,0,none⟩)),(25,.pointer (some ⟨b25,0,none⟩)),(13,.int .i64 L),(17,.int .i64 (m % 1000))]∧As'=.cl b25 [.string ⟨(tN ((L:Rat)+u' * ((w.x - L:Int):Rat))).toArray⟩,.string ⟨(tD ((L:Rat)+u' * ((w.x - L:Int):Rat))).toArray⟩,.string ⟨(tN (((0:Int):Rat)+u' * ((w.y - 0:Int):Rat))).toArray⟩,.string ⟨(tD (((0:Int):Rat)+u' * ((w.y - 0:Int):Rat))).toArray⟩,.string ⟨(tN (((0:Int):Rat)+u' * ((w.z - 0:Int):Rat))).toArray⟩,.string ⟨(tD (((0:Int):Rat)+u' * ((w.z - 0:Int):Rat))).toArray⟩] 54::.cl b23 [.string ⟨(tN ((L:Rat)+u * ((w.x - L:Int):Rat))).toArray⟩,.string ⟨(tD ((L:Rat)+u * ((w.x - L:Int):Rat))).toArray⟩,.string ⟨(tN (((0:Int):Rat)+u * ((w.y - 0:Int):Rat))).toArray⟩,.string ⟨(tD (((0:Int):Rat)+u * ((w.y - 0:Int):Rat))).toArray⟩,.string ⟨(tN (((0:Int):Rat)+u * ((w.z - 0:Int):Rat))).toArray⟩,.string ⟨(tD (((0:Int):Rat)+u * ((w.z - 0:Int):Rat))).toArray⟩] 54::.cl b21 [.int .i64 L,.int .i64 0,.int .i64 0] 33::.cl b19 [.int .i64 L,.int .i64 0,.int .i64 0] 33::.cl b16 [.int .i64 q.x,.int .i64 q.y,.int .i64 q.z] 33::.cl b15 [.int .i64 p.x,.int .i64 p.y,.int .i64 p.z] 33::.cl b14 [.int .i64 w.x,.int .i64 w.y,.int .i64 w.z] 33::.cl b9 [.slice pa P.length ca,.slice pb F.length cb] 36::.cl b6 [.int .u8 f0,.int .u8 f1] 78::.ft (rd cV3 (.slice pa P.length ca) P)::.ft (rd cV3 (.slice pb F.length cb) F)::As) ?_ ?_
    ·by_cases hz:s0=0
     all_goals
           repeat' first|refine Kf ?_|intro _|constructor
           exact Post.cut _ _ ⟨rfl,rfl⟩ Zad Zaa
    rintro _ _ ⟨rfl,rfl⟩
    repeat' first|refine Kz ?_|intro _
    refine Ks rfl (Zh8 (c:=⟨L,0,0⟩) (p:=w) (s:=u) hcf hwf fu hwc) ?_
    repeat' first|refine Kz ?_|intro _
    refine Ks rfl (Zh8 (c:=⟨L,0,0⟩) (p:=w) (s:=u') hcf hwf fu' hwc) ?_
    repeat' first|refine Kz ?_|intro _
    refine TL.callv rfl rfl rfl rfl (Zs1 ht (pv:=.slice pa P.length ca) (fv:=.slice pb F.length cb) (pts:=P) (fcs:=F) (p:=⟨L,0,0⟩) (q:=w) (y:=true)) ?_
    rw [Zc9 hg hcf hwf (fun e=>hwc e.symm),hr]
    rintro _ _ ⟨rfl,rfl⟩
    show TL _ _ _ _ _ ((_,.tuple #[.agg #[.string ⟨(tN (t)).toArray⟩,.string ⟨(tD (t)).toArray⟩],.int .i64 (j:Int),.int .i64 0])::_) _ _
    repeat' first|refine Kz ?_|intro _
    rename_i b27 b29 b31
    have zw:∀ a b:Rat,a+0 * b=a:=fun a b=>by grind
    by_cases g0:f0=0
    ·obtain rfl:=hu0 g0
     have hdp:decide ((⟨p.x,p.y,p.z⟩:V3)=⟨L,0,0⟩)=true:=decide_eq_true (hpc.2 g0)
     rw [zw,zw,zw,hdp]
     repeat' first|refine Kz ?_|intro _
     by_cases g1:f1=0
     ·obtain rfl:=hu0' g1
      have hdq:decide ((⟨q.x,q.y,q.z⟩:V3)=⟨L,0,0⟩)=true:=decide_eq_true (hqc.2 g1)
      rw [zw,zw,zw]
      refine Zaf [.cl b15 [.int .i64 p.x,.int .i64 p.y,.int .i64 p.z] 33,.cl b19 [.int .i64 L,.int .i64 0,.int .i64 0] 33,.cl b23 [.string ⟨(tN ((L:Rat))).toArray⟩,.string ⟨(tD ((L:Rat))).toArray⟩,.string ⟨(tN (((0:Int):Rat))).toArray⟩,.string ⟨(tD (((0:Int):Rat))).toArray⟩,.string ⟨(tN (((0:Int):Rat))).toArray⟩,.string ⟨(tD (((0:Int):Rat))).toArray⟩] 54,.cl b16 [.int .i64 q.x,.int .i64 q.y,.int .i64 q.z] 33,.cl b25 [.string ⟨(tN ((L:Rat))).toArray⟩,.string ⟨(tD ((L:Rat))).toArray⟩,.string ⟨(tN (((0:Int):Rat))).toArray⟩,.string ⟨(tD (((0:Int):Rat))).toArray⟩,.string ⟨(tN (((0:Int):Rat))).toArray⟩,.string ⟨(tD (((0:Int):Rat))).toArray⟩] 54] [] (.take 0 (.take 1 (.take 2 (.take 3 (.take 4 (.take 5 (.all [(6,.take 7 (.take 8 (.take 9 (.take 10 (.take 11 (.take 12 (.take 13 (.take 14 (.take 15 (.all [(16,.take 17 (.take 18 (.take 19 (.take 20 (.done)))))]))))))))))]))))))) ?_
      repeat' first|refine Kf ?_|intro _|constructor
      rw [hdp]
      repeat' first|refine Kf ?_|intro _|constructor
      refine Ku rfl (Zbk (x:=L) (y:=0) (z:=0) (by omega) (by decide) (by decide)) ?_
      unfold frtV
      repeat' first|refine Kf ?_|intro _|constructor
      refine TT.take rfl rfl rfl (Za1 rfl rfl) ?_
      rw [Zlr]
      repeat' first|refine Kf ?_|intro _|constructor
      rw [hdq]
      repeat' first|refine Kf ?_|intro _|constructor
      refine Ku rfl (Zbk (x:=L) (y:=0) (z:=0) (by omega) (by decide) (by decide)) ?_
      unfold frtV
      repeat' first|refine Kf ?_|intro _|constructor
      refine TT.take rfl rfl rfl (Za1 rfl rfl) ?_
      rw [Zlr]
      repeat' first|refine Kf ?_|intro _|constructor
      (refine Zac ?_)
      exact ⟨_,rfl,Ents.refl _⟩
     ·have hdq:decide ((⟨q.x,q.y,q.z⟩:V3)=⟨L,0,0⟩)=false:=decide_eq_false (fun e=>g1 (hqc.1 e))
      refine Zaf [.cl b15 [.int .i64 p.x,.int .i64 p.y,.int .i64 p.z] 33,.cl b19 [.int .i64 L,.int .i64 0,.int .i64 0] 33,.cl b23 [.string ⟨(tN ((L:Rat))).toArray⟩,.string ⟨(tD ((L:Rat))).toArray⟩,.string ⟨(tN (((0:Int):Rat))).toArray⟩,.string ⟨(tD (((0:Int):Rat))).toArray⟩,.string ⟨(tN (((0:Int):Rat))).toArray⟩,.string ⟨(tD (((0:Int):Rat))).toArray⟩] 54,.cl b16 [.int .i64 q.x,.int .i64 q.y,.int .i64 q.z] 33,.cl b25 [.string ⟨(tN ((L:Rat)+u' * ((w.x - L:Int):Rat))).toArray⟩,.string ⟨(tD ((L:Rat)+u' * ((w.x - L:Int):Rat))).toArray⟩,.string ⟨(tN (((0:Int):Rat)+u' * ((w.y - 0:Int):Rat))).toArray⟩,.string ⟨(tD (((0:Int):Rat)+u' * ((w.y - 0:Int):Rat))).toArray⟩,.string ⟨(tN (((0:Int):Rat)+u' * ((w.z - 0:Int):Rat))).toArray⟩,.string ⟨(tD (((0:Int):Rat)+u' * ((w.z - 0:Int):Rat))).toArray⟩] 54] [] (.take 0 (.take 1 (.take 2 (.take 3 (.take 4 (.take 5 (.all [(6,.take 7 (.take 8 (.take 9 (.take 10 (.take 11 (.take 12 (.take 13 (.take 14 (.take 15 (.all [(16,.take 17 (.take 18 (.take 19 (.take 20 (.done)))))]))))))))))]))))))) ?_
      repeat' first|refine Kf ?_|intro _|constructor
      rw [hdp]
      repeat' first|refine Kf ?_|intro _|constructor
      refine Ku rfl (Zbk (x:=L) (y:=0) (z:=0) (by omega) (by decide) (by decide)) ?_
      unfold frtV
      repeat' first|refine Kf ?_|intro _|constructor
      refine TT.take rfl rfl rfl (Za1 rfl rfl) ?_
      rw [Zlr]
      repeat' first|refine Kf ?_|intro _|constructor
      rw [hdq]
      repeat' first|refine Kf ?_|intro _|constructor
      (refine Zac ?_)
      exact ⟨_,rfl,Ents.refl _⟩
    ·have hdp:decide ((⟨p.x,p.y,p.z⟩:V3)=⟨L,0,0⟩)=false:=decide_eq_false (fun e=>g0 (hpc.1 e))
     rw [hdp]
     repeat' first|refine Kz ?_|intro _
     by_cases g1:f1=0
     ·obtain rfl:=hu0' g1
      have hdq:decide ((⟨q.x,q.y,q.z⟩:V3)=⟨L,0,0⟩)=true:=decide_eq_true (hqc.2 g1)
      rw [zw,zw,zw,hdq]
      repeat' first|refine Kz ?_|intro _
      refine Zaf [.cl b15 [.int .i64 p.x,.int .i64 p.y,.int .i64 p.z] 33,.cl b19 [.int .i64 L,.int .i64 0,.int .i64 0] 33,.cl b23 [.string ⟨(tN ((L:Rat)+u * ((w.x - L:Int):Rat))).toArray⟩,.string ⟨(tD ((L:Rat)+u * ((w.x - L:Int):Rat))).toArray⟩,.string ⟨(tN (((0:Int):Rat)+u * ((w.y - 0:Int):Rat))).toArray⟩,.string ⟨(tD (((0:Int):Rat)+u * ((w.y - 0:Int):Rat))).toArray⟩,.string ⟨(tN (((0:Int):Rat)+u * ((w.z - 0:Int):Rat))).toArray⟩,.string ⟨(tD (((0:Int):Rat)+u * ((w.z - 0:Int):Rat))).toArray⟩] 54,.cl b16 [.int .i64 q.x,.int .i64 q.y,.int .i64 q.z] 33,.cl b25 [.string ⟨(tN ((L:Rat))).toArray⟩,.string ⟨(tD ((L:Rat))).toArray⟩,.string ⟨(tN (((0:Int):Rat))).toArray⟩,.string ⟨(tD (((0:Int):Rat))).toArray⟩,.string ⟨(tN (((0:Int):Rat))).toArray⟩,.string ⟨(tD (((0:Int):Rat))).toArray⟩] 54] [] (.take 0 (.take 1 (.take 2 (.take 3 (.take 4 (.take 5 (.all [(6,.take 7 (.take 8 (.take 9 (.take 10 (.take 11 (.take 12 (.take 13 (.take 14 (.take 15 (.all [(16,.take 17 (.take 18 (.take 19 (.take 20 (.done)))))]))))))))))]))))))) ?_
      repeat' first|refine Kf ?_|intro _|constructor
      rw [hdp]
      repeat' first|refine Kf ?_|intro _|constructor
      rw [hdq]
      repeat' first|refine Kf ?_|intro _|constructor
      refine Ku rfl (Zbk (x:=L) (y:=0) (z:=0) (by omega) (by decide) (by decide)) ?_
      unfold frtV
      repeat' first|refine Kf ?_|intro _|constructor
      refine TT.take rfl rfl rfl (Za1 rfl rfl) ?_
      rw [Zlr]
      repeat' first|refine Kf ?_|intro _|constructor
      (refine Zac ?_)
      exact ⟨_,rfl,Ents.refl _⟩
     ·have hdq:decide ((⟨q.x,q.y,q.z⟩:V3)=⟨L,0,0⟩)=false:=decide_eq_false (fun e=>g1 (hqc.1 e))
      rw [hdq]
      repeat' first|refine Kz ?_|intro _
      refine Ks rfl (Zio (r:=u) (s:=u') (fu.mono (by decide)) (fu'.mono (by decide))) ?_
      obtain ⟨o1,o2,o3,o4⟩:=hord (by omega) (by omega)
      have q1:f0 < f1→¬ 0 < ordQ u u':=fun h k=>Rat.not_lt.2 (o1 h) (Zji.1 k)
      have q2:f1 < f0→¬ ordQ u u' < 0:=fun h k=>Rat.not_lt.2 (o2 h) (Zhn.1 k)
      have q5:ordQ u u'=0→u=u':=fun h=>Rat.le_antisymm (Rat.not_lt.1 fun k=>by have:=Zji.2 k;omega) (Rat.not_lt.1 fun k=>by have:=Zhn.2 k;omega)
      have q3:f0=f1→ordQ u u'=0:=fun h=>by have e:=o3 h;have a:=@Zji u u';have b:=@Zhn u u';rw [e] at a b ⊢;exact Int.le_antisymm (Int.not_lt.1 fun k=>Rat.lt_irrefl (a.1 k)) (Int.not_lt.1 fun k=>Rat.lt_irrefl (b.1 k))
      have q4:f0≠f1→ordQ u u'=0→u=t:=fun h k=>o4 h (q5 k)
      generalize ordQ u u'=O at *
      clear o1 o2 o3 o4 q5 hord
      have tri:(f0 < f1∧O=0)∨(f0 < f1∧O < 0)∨f0=f1∧O=0∨(f1 < f0∧O=0)∨(f1 < f0∧0 < O):=by
       rcases Int.lt_trichotomy f0 f1 with h|h|h
       ·have:=q1 h;omega
       ·have:=q3 h;omega
       ·have:=q2 h;omega
      iterate 5 refine Yh9 ?_
      iterate 3 refine Stp.h ?_
      refine Tri.mid (fun e' As'=>e'=[(6,.pointer (some ⟨b6,0,none⟩)),(15,.pointer (some ⟨b15,0,none⟩)),(23,.pointer (some ⟨b23,0,none⟩)),(31,.pointer (some ⟨b31,0,none⟩)),(13,.int .i64 L),(17,.int .i64 (m % 1000))]∧As'=.cl b31 [.string ⟨(tN (t)).toArray⟩,.string ⟨(tD (t)).toArray⟩] 52::.cl b23 [.string ⟨(tN ((L:Rat)+u * ((w.x - L:Int):Rat))).toArray⟩,.string ⟨(tD ((L:Rat)+u * ((w.x - L:Int):Rat))).toArray⟩,.string ⟨(tN (((0:Int):Rat)+u * ((w.y - 0:Int):Rat))).toArray⟩,.string ⟨(tD (((0:Int):Rat)+u * ((w.y - 0:Int):Rat))).toArray⟩,.string ⟨(tN (((0:Int):Rat)+u * ((w.z - 0:Int):Rat))).toArray⟩,.string ⟨(tD (((0:Int):Rat)+u * ((w.z - 0:Int):Rat))).toArray⟩] 54::.cl b15 [.int .i64 p.x,.int .i64 p.y,.int .i64 p.z] 33::.cl b6 [.int .u8 f0,.int .u8 f1] 78::As) ?_ ?_
      ·rcases tri with ⟨h,k⟩|⟨h,k⟩|⟨h,k⟩|⟨h,k⟩|⟨h,k⟩
       all_goals (repeat' first|refine Kf ?_|intro _|constructor)
       all_goals try (have e:=q4 (by omega) k;refine TL.f rfl rfl (Zen rfl rfl) ?_;rw [show (!decide (tN u=tN t∧tD u=tD t))=false by rw [e];simp];(repeat' first|refine Kf ?_|intro _|constructor))
       all_goals exact Post.cut _ _ ⟨rfl,rfl⟩ Zad Zaa
      rintro _ _ ⟨rfl,rfl⟩
      clear tri
      repeat' first|refine Kz ?_|intro _
      clear q1 q2 q3 q4
      refine Ks rfl (Za0 (n:=1000 * f0) (d:=if m % 1000 < 1 then 1 else m % 1000) (by omega) (by split<;>omega) (by split<;>omega)) ?_
      repeat' first|refine Kz ?_|intro _
      refine Ks rfl (Zio (r:=qI (1000 * f0) (if m % 1000 < 1 then 1 else m % 1000)) (s:=t) ((Zet (by omega) (by split<;>omega) (by split<;>omega)).mono (by decide)) (hft.mono (by decide))) ?_
      by_cases hk:0 < m % 1000
      ·rw [show (if m % 1000 < 1 then 1 else m % 1000)=m % 1000 from if_neg (by omega)]
       have hcp:=fun g:t < qI (1000 * f0) (m % 1000)=>Zji.2 g
       have hkn:=hkn (by omega) hk
       generalize qI (1000 * f0) (m % 1000)=y at *
       generalize ordQ y t=O2 at *
       by_cases hz2:O2≤0
       ·have e3:=hkn (Rat.not_lt.1 fun g=>by have:=hcp g;omega)
        unfold atQ exactQ at e3
        simp only [List.cons.injEq,and_true] at e3
        obtain ⟨e1,e2,e3⟩:=e3
        rw [e1,e2,e3]
        repeat' first|refine Kz ?_|intro _
        refine Zaf [.cl b15 [.int .i64 p.x,.int .i64 p.y,.int .i64 p.z] 33,.cl b23 [.string ⟨(tN ((p.x:Rat))).toArray⟩,.string ⟨(tD ((p.x:Rat))).toArray⟩,.string ⟨(tN ((p.y:Rat))).toArray⟩,.string ⟨(tD ((p.y:Rat))).toArray⟩,.string ⟨(tN ((p.z:Rat))).toArray⟩,.string ⟨(tD ((p.z:Rat))).toArray⟩] 54] [] (.take 0 (.take 1 (.take 2 (.take 3 (.take 4 (.take 5 (.take 6 (.take 7 (.take 8 (.take 9 (.take 10 (.take 11 (.take 12 (.take 13 (.all [(14,.take 15 (.take 16 (.done)))]))))))))))))))) ?_
        repeat' first|refine Kf ?_|intro _|constructor
        refine Ku rfl (Zbk (x:=p.x) (y:=p.y) (z:=p.z) (by omega) (by omega) (by omega)) ?_
        unfold frtV
        repeat' first|refine Kf ?_|intro _|constructor
        refine TT.take rfl rfl rfl (Zea rfl rfl) ?_
        rw [show ∀ a b c d f g:List UInt8,(!decide ((a=a∧b=b)∧(c=c∧d=d)∧(f=f∧g=g)))=false by simp]
        repeat' first|refine Kf ?_|intro _|constructor
        (refine Zac ?_)
        exact ⟨_,rfl,Ents.refl _⟩
       ·repeat' first|refine Kz ?_|intro _
        refine Zaf [.cl b15 [.int .i64 p.x,.int .i64 p.y,.int .i64 p.z] 33,.cl b23 [.string ⟨(tN ((L:Rat)+u * ((w.x - L:Int):Rat))).toArray⟩,.string ⟨(tD ((L:Rat)+u * ((w.x - L:Int):Rat))).toArray⟩,.string ⟨(tN (((0:Int):Rat)+u * ((w.y - 0:Int):Rat))).toArray⟩,.string ⟨(tD (((0:Int):Rat)+u * ((w.y - 0:Int):Rat))).toArray⟩,.string ⟨(tN (((0:Int):Rat)+u * ((w.z - 0:Int):Rat))).toArray⟩,.string ⟨(tD (((0:Int):Rat)+u * ((w.z - 0:Int):Rat))).toArray⟩] 54] [] (.take 0 (.take 1 (.take 2 (.take 3 (.take 4 (.take 5 (.take 6 (.take 7 (.take 8 (.take 9 (.take 10 (.take 11 (.take 12 (.take 13 (.all [(14,.take 15 (.take 16 (.done)))]))))))))))))))) ?_
        repeat' first|refine Kf ?_|intro _|constructor
        (refine Zac ?_)
        exact ⟨_,rfl,Ents.refl _⟩
      ·generalize ordQ (qI (1000 * f0) (if m % 1000 < 1 then 1 else m % 1000)) t=O2
       repeat' first|refine Kz ?_|intro _
       refine Zaf [.cl b15 [.int .i64 p.x,.int .i64 p.y,.int .i64 p.z] 33,.cl b23 [.string ⟨(tN ((L:Rat)+u * ((w.x - L:Int):Rat))).toArray⟩,.string ⟨(tD ((L:Rat)+u * ((w.x - L:Int):Rat))).toArray⟩,.string ⟨(tN (((0:Int):Rat)+u * ((w.y - 0:Int):Rat))).toArray⟩,.string ⟨(tD (((0:Int):Rat)+u * ((w.y - 0:Int):Rat))).toArray⟩,.string ⟨(tN (((0:Int):Rat)+u * ((w.z - 0:Int):Rat))).toArray⟩,.string ⟨(tD (((0:Int):Rat)+u * ((w.z - 0:Int):Rat))).toArray⟩] 54] [] (.take 0 (.take 1 (.take 2 (.take 3 (.take 4 (.take 5 (.take 6 (.take 7 (.take 8 (.take 9 (.take 10 (.take 11 (.take 12 (.take 13 (.all [(14,.take 15 (.take 16 (.done)))]))))))))))))))) ?_
       repeat' first|refine Kf ?_|intro _|constructor
       (refine Zac ?_)
       exact ⟨_,rfl,Ents.refl _⟩
end Go.Proofs.YtngcfjfaobcpmaaGreatDoor

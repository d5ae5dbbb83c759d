/- Walks: IntentLines. -/
import Derived.Test.YtngcfjfaobcpmaaGreatDoorNl0
import Derived.Test.YtngcfjfaobcpmaaGreatDoorNk1
import Derived.Test.YtngcfjfaobcpmaaGreatDoorNg1
set_option maxHeartbeats 1000000
namespace Go.Sx
open Go
theorem Zh1 {P F:List V3} {p:V3} (hg:Good P F) (hp:isFar p=false) (ho:anchorO P F p=none):anchorW P F p=(V3.zero,4):=by unfold anchorW;rw [if_neg (fun k=>k (Yga.2 hg)),hp,if_neg (by decide),ho]
theorem Zh0 {P F:List V3} {p c:V3} (hg:Good P F) (hp:isFar p=false) (ho:anchorO P F p=some c):anchorW P F p=(c,0):=by unfold anchorW;rw [if_neg (fun k=>k (Yga.2 hg)),hp,if_neg (by decide),ho]
theorem Yey {T U:TypeId} {R:List Ent} {a b:Value} {xs ys:List V3}:Ents (.ow cV3 T a xs::.ow cV3 U b ys::R) (.ft (rd cV3 a xs)::.ft (rd cV3 b ys)::R) :=
 Ents.trans Ents.freeze (Ents.trans (Ents.perm (List.Perm.swap _ _ _)) (Ents.trans Ents.freeze (Ents.perm (List.Perm.swap _ _ _))))
theorem Zlr:∀ a b c d f g:List UInt8,decide ((a=a∧b=b)∧(c=c∧d=d)∧(f=f∧g=g))=true:=by simp
end Go.Sx
namespace Go.Proofs.YtngcfjfaobcpmaaGreatDoor
open Go Go.Sx
variable {w0:World} {As:List Ent} {pv fv:Value} {pts fcs:List V3}
set_option maxRecDepth 100000 in
set_option maxHeartbeats 2000000 in
theorem Zo0 (ht:Tab w0) (he:ErrR w0) (d:DraftA) (hd:d.ok) {l:Int} (hl:0≤l∧l≤65535) {y:PlaceA} (hy:y.ok) {m n:Int} (hm:0≤m∧m≤65535) (hn:0≤n∧n≤65535) [RdIn As d.ov Int (cI .i8) d.off] :
  CallsS Tryz.prog w0 6 [.agg (d.cells++[Value.int .u16 l]).toArray,.agg y.cells.toArray,.agg #[.int .u16 m,.int .u16 n]] As fun u _=>u=.bool true:=by
 have h11:qI 1 1=1:=by decide +kernel
 refine Zak d.ov (xs:=d.off) (c:=cI .i8) fun hov=>?_
 refine Zab Tryz.func6 rfl Tryz.ntmps6 rfl ?_
 show Tri _ _ _ _ (env0 0 [.agg #[.int .u8 d.kd,.int .u8 d.sz,.int .i16 d.a0,.int .i16 d.a1,.int .i16 d.a2,d.ov,.bool d.tn,.int .u16 l],.agg #[.int .u8 y.a0,.int .u8 y.a1,.int .u8 y.a2,.int .u8 y.w0,.int .u8 y.w1,.int .u8 y.w2,.int .i16 y.o0,.int .i16 y.o1,.int .i16 y.o2],.agg #[.int .u16 m,.int .u16 n]]) _ _
 repeat' first|refine Kz ?_|intro _
 refine Kt rfl (Zey ht he) ?_
 repeat' first|refine Kz ?_|intro _
 refine TL.callv rfl rfl rfl rfl (Zmm d hd hl) ?_
 rintro _ _ ⟨P,F,hg,pv,fv,rfl,o1,o2,rfl⟩
 refine TL.ents Yey ?_
 refine Zbn (c:=cV3) (xs:=P) pv fun pa ca e1=>Zbn (c:=cV3) (xs:=F) fv fun pb cb e2=>?_
 subst e1 e2
 repeat' first|refine Kz ?_|intro _
 refine TL.callv rfl rfl rfl rfl (Zca (x:=y) (pv:=.slice pa P.length ca) (fv:=.slice pb F.length cb) hy hg) ?_
 rintro _ _ ⟨p,hp,rfl,rfl⟩
 show TL _ _ _ _ _ ((_,.agg #[.int .i64 p.x,.int .i64 p.y,.int .i64 p.z])::_) _ _
 repeat' first|refine Kz ?_|intro _
 rename_i b8
 have bp:=Zb2 hp
 obtain ⟨p1,p2,p3,p4,p5,p6⟩:=bp
 have hpr:=fun (e:Int) (h:4=e)=>h
 clear hpr
 refine TL.callv rfl rfl rfl rfl (Zdi ht he (pv:=.slice pa P.length ca) (fv:=.slice pb F.length cb) (pts:=P) (fcs:=F) (p:=p)) ?_
 cases ha:anchorO P F p with
 | none =>
  rw [Zh1 hg hp ha]
  rintro _ _ ⟨rfl,rfl⟩
  show TL _ _ _ _ _ ((_,.tuple #[.agg #[.int .i64 0,.int .i64 0,.int .i64 0],.int .i64 4])::_) _ _
  repeat' first|refine Kz ?_|intro _
  refine TL.callv rfl rfl rfl rfl (Zcw ht he (pv:=.slice pa P.length ca) (fv:=.slice pb F.length cb) (pts:=P) (fcs:=F) (p:=p)) ?_
  rw [Zuc hg hp ha]
  rintro _ _ ⟨rfl,rfl⟩
  show TL _ _ _ _ _ ((_,.tuple #[.agg #[.string ⟨#[]⟩,.string ⟨#[]⟩,.string ⟨#[]⟩,.string ⟨#[]⟩,.string ⟨#[]⟩,.string ⟨#[]⟩],.int .i64 4])::_) _ _
  repeat' first|refine Kz ?_|intro _
  refine TL.callv rfl rfl rfl rfl (Zan ht he (pv:=.slice pa P.length ca) (fv:=.slice pb F.length cb) (pts:=P) (fcs:=F) (p:=p) (k:=m % 1000) (m:=1001+n % 9000)) ?_
  rw [Zev hg hp (by omega) (by omega) (by omega) (by omega) ha]
  rintro _ _ ⟨rfl,rfl⟩
  show TL _ _ _ _ _ ((_,.tuple #[.agg #[.string ⟨#[]⟩,.string ⟨#[]⟩,.string ⟨#[]⟩,.string ⟨#[]⟩,.string ⟨#[]⟩,.string ⟨#[]⟩],.int .i64 4])::_) _ _
  repeat' first|refine Kz ?_|intro _
  (refine Zac ?_)
  exact ⟨_,rfl,Ents.refl _⟩
 | some c =>
  obtain ⟨hc,h2,cy,cz⟩:=Zcx hg ha
  rw [Zh0 hg hp ha]
  rintro _ _ ⟨rfl,rfl⟩
  show TL _ _ _ _ _ ((_,.tuple #[.agg #[.int .i64 c.x,.int .i64 c.y,.int .i64 c.z],.int .i64 0])::_) _ _
  repeat' first|refine Kz ?_|intro _
  rename_i b9
  by_cases hpc:p=c
  ·subst hpc
   refine TL.callv rfl rfl rfl rfl (Zcw ht he (pv:=.slice pa P.length ca) (fv:=.slice pb F.length cb) (pts:=P) (fcs:=F) (p:=p)) ?_
   rw [Zws hg hp ha (by rw [h2];decide)]
   rintro _ _ ⟨rfl,rfl⟩
   show TL _ _ _ _ _ ((_,.tuple #[.agg #[.string ⟨(tN ((p.x:Rat))).toArray⟩,.string ⟨(tD ((p.x:Rat))).toArray⟩,.string ⟨(tN ((p.y:Rat))).toArray⟩,.string ⟨(tD ((p.y:Rat))).toArray⟩,.string ⟨(tN ((p.z:Rat))).toArray⟩,.string ⟨(tD ((p.z:Rat))).toArray⟩],.int .i64 0])::_) _ _
   repeat' first|refine Kz ?_|intro _
   rename_i b11
   refine TL.callv rfl rfl rfl rfl (Zan ht he (pv:=.slice pa P.length ca) (fv:=.slice pb F.length cb) (pts:=P) (fcs:=F) (p:=p) (k:=m % 1000) (m:=1001+n % 9000)) ?_
   rw [Zds hg hp (by omega) (by omega) (by omega) (by omega) ha]
   rintro _ _ ⟨rfl,rfl⟩
   show TL _ _ _ _ _ ((_,.tuple #[.agg #[.string ⟨(tN ((p.x:Rat))).toArray⟩,.string ⟨(tD ((p.x:Rat))).toArray⟩,.string ⟨(tN ((p.y:Rat))).toArray⟩,.string ⟨(tD ((p.y:Rat))).toArray⟩,.string ⟨(tN ((p.z:Rat))).toArray⟩,.string ⟨(tD ((p.z:Rat))).toArray⟩],.int .i64 0])::_) _ _
   repeat' first|refine Kz ?_|intro _
   rename_i b13
   refine TL.callv rfl rfl rfl rfl (Zdo ht hg (p:=p) hp) ?_
   rw [h2]
   rintro _ _ ⟨rfl,rfl⟩
   repeat' first|refine Kz ?_|intro _
   refine TL.callv rfl rfl rfl rfl (Zdo ht hg (p:=p) hp) ?_
   rw [h2]
   rintro _ _ ⟨rfl,rfl⟩
   repeat' first|refine Kz ?_|intro _
   rw [show decide ((⟨p.x,p.y,p.z⟩:V3)=⟨p.x,p.y,p.z⟩)=true from decide_eq_true rfl]
   repeat' first|refine Kz ?_|intro _
   refine Zaf [.cl b11 [.string ⟨(tN ((p.x:Rat))).toArray⟩,.string ⟨(tD ((p.x:Rat))).toArray⟩,.string ⟨(tN ((p.y:Rat))).toArray⟩,.string ⟨(tD ((p.y:Rat))).toArray⟩,.string ⟨(tN ((p.z:Rat))).toArray⟩,.string ⟨(tD ((p.z:Rat))).toArray⟩] 54,.cl b13 [.string ⟨(tN ((p.x:Rat))).toArray⟩,.string ⟨(tD ((p.x:Rat))).toArray⟩,.string ⟨(tN ((p.y:Rat))).toArray⟩,.string ⟨(tD ((p.y:Rat))).toArray⟩,.string ⟨(tN ((p.z:Rat))).toArray⟩,.string ⟨(tD ((p.z:Rat))).toArray⟩] 54,.cl b8 [.int .i64 p.x,.int .i64 p.y,.int .i64 p.z] 33] [] (.take 0 (.take 1 (.take 2 (.take 3 (.take 4 (.take 5 (.take 6 (.take 7 (.take 8 (.take 9 (.take 10 (.all [(11,.take 12 (.take 13 (.take 14 (.done))))])))))))))))) ?_
   repeat' first|refine Kf ?_|intro _|constructor
   refine TT.take rfl rfl rfl (Za1 rfl rfl) ?_
   rw [Zlr]
   repeat' first|refine Kf ?_|intro _|constructor
   refine Ku rfl (Zbk (x:=p.x) (y:=p.y) (z:=p.z) (by omega) (by omega) (by omega)) ?_
   unfold frtV
   repeat' first|refine Kf ?_|intro _|constructor
   refine TT.take rfl rfl rfl (Za1 rfl rfl) ?_
   rw [Zlr]
   repeat' first|refine Kf ?_|intro _|constructor
   (refine Zac ?_)
   exact ⟨_,rfl,Ents.refl _⟩
  ·obtain ⟨t,j,s,hr,ht0,hft,hps,s0,s1,st,hfs,hcw⟩:=Zel hg hp (k:=m % 1000) (m:=1001+n % 9000) (by omega) (by omega) (by omega) (by omega) ha hpc
   have hdec:decide ((⟨p.x,p.y,p.z⟩:V3)=⟨c.x,c.y,c.z⟩)=false:=decide_eq_false hpc
   by_cases hs:(sideW P F p).1=0
   ·obtain ⟨_,t',j',hr',hft',hcl⟩:=Zmq hg hp ha hs
    rw [Ycm] at hcl
    obtain ⟨b0,b1,_⟩:=Zdz hg hp hc hpc hr'
    have fu:Fit 300 (1 - t'):=(fit1.sub hft').mono (by decide)
    have u0:0≤1 - t':=by grind
    have u1:1 - t'≤1:=by grind
    refine TL.callv rfl rfl rfl rfl (Zcw ht he (pv:=.slice pa P.length ca) (fv:=.slice pb F.length cb) (pts:=P) (fcs:=F) (p:=p)) ?_
    rw [hcl]
    rintro _ _ ⟨rfl,rfl⟩
    show TL _ _ _ _ _ ((_,.tuple #[.agg #[.string ⟨(tN ((c.x:Rat)+(1 - t') * ((p.x - c.x:Int):Rat))).toArray⟩,.string ⟨(tD ((c.x:Rat)+(1 - t') * ((p.x - c.x:Int):Rat))).toArray⟩,.string ⟨(tN ((c.y:Rat)+(1 - t') * ((p.y - c.y:Int):Rat))).toArray⟩,.string ⟨(tD ((c.y:Rat)+(1 - t') * ((p.y - c.y:Int):Rat))).toArray⟩,.string ⟨(tN ((c.z:Rat)+(1 - t') * ((p.z - c.z:Int):Rat))).toArray⟩,.string ⟨(tD ((c.z:Rat)+(1 - t') * ((p.z - c.z:Int):Rat))).toArray⟩],.int .i64 0])::_) _ _
    repeat' first|refine Kz ?_|intro _
    rename_i b11
    refine TL.callv rfl rfl rfl rfl (Zan ht he (pv:=.slice pa P.length ca) (fv:=.slice pb F.length cb) (pts:=P) (fcs:=F) (p:=p) (k:=m % 1000) (m:=1001+n % 9000)) ?_
    rw [hcw]
    rintro _ _ ⟨rfl,rfl⟩
    show TL _ _ _ _ _ ((_,.tuple #[.agg #[.string ⟨(tN ((c.x:Rat)+s * ((p.x - c.x:Int):Rat))).toArray⟩,.string ⟨(tD ((c.x:Rat)+s * ((p.x - c.x:Int):Rat))).toArray⟩,.string ⟨(tN ((c.y:Rat)+s * ((p.y - c.y:Int):Rat))).toArray⟩,.string ⟨(tD ((c.y:Rat)+s * ((p.y - c.y:Int):Rat))).toArray⟩,.string ⟨(tN ((c.z:Rat)+s * ((p.z - c.z:Int):Rat))).toArray⟩,.string ⟨(tD ((c.z:Rat)+s * ((p.z - c.z:Int):Rat))).toArray⟩],.int .i64 0])::_) _ _
    repeat' first|refine Kz ?_|intro _
    refine TL.callv rfl rfl rfl rfl (Zdo ht hg (p:=c) hc) ?_
    rw [h2]
    rintro _ _ ⟨rfl,rfl⟩
    repeat' first|refine Kz ?_|intro _
    refine TL.callv rfl rfl rfl rfl (Zdo ht hg (p:=p) hp) ?_
    rw [hs]
    rintro _ _ ⟨rfl,rfl⟩
    repeat' first|refine Kz ?_|intro _
    rw [hdec]
    repeat' first|refine Kz ?_|intro _
    refine TL.callv rfl rfl rfl rfl (Za0 (n:=1) (d:=1) (by decide) (by decide) (by decide)) ?_
    rw [h11]
    rintro _ _ ⟨rfl,rfl⟩
    repeat' first|refine Kz ?_|intro _
    refine TL.callv rfl rfl rfl rfl (Zs1 ht (pv:=.slice pa P.length ca) (fv:=.slice pb F.length cb) (pts:=P) (fcs:=F) (p:=c) (q:=p) (y:=true)) ?_
    rw [Zc9 hg hc hp (fun e=>hpc e.symm),hr]
    rintro _ _ ⟨rfl,rfl⟩
    show TL _ _ _ _ _ ((_,.tuple #[.agg #[.string ⟨(tN (t)).toArray⟩,.string ⟨(tD (t)).toArray⟩],.int .i64 (j:Int),.int .i64 0])::_) _ _
    repeat' first|refine Kz ?_|intro _
    refine Ks rfl (Zh8 (c:=c) (p:=p) (s:=1 - t') hc hp fu hpc) ?_
    repeat' first|refine Kz ?_|intro _
    refine Ks rfl (Zh8 (c:=c) (p:=p) (s:=s) hc hp (hfs.mono (by decide)) hpc) ?_
    repeat' first|refine Kz ?_|intro _
    refine TL.callv rfl rfl rfl rfl (Zf1 (s:=(1 - t')) (t:=1) (fu.mono (by decide)) (fit1.mono (by decide))) ?_
    rw [decide_eq_true ⟨u0,u1⟩]
    rintro _ _ ⟨rfl,rfl⟩
    repeat' first|refine Kz ?_|intro _
    refine TL.callv rfl rfl rfl rfl (Zf1 (s:=s) (t:=1) (hfs.mono (by decide)) (fit1.mono (by decide))) ?_
    rw [decide_eq_true ⟨s0,s1⟩]
    rintro _ _ ⟨rfl,rfl⟩
    repeat' first|refine Kz ?_|intro _
    refine TL.callv rfl rfl rfl rfl (Zf1 (s:=s) (t:=t) (hfs.mono (by decide)) (hft.mono (by decide))) ?_
    rw [decide_eq_true ⟨s0,st⟩]
    rintro _ _ ⟨rfl,rfl⟩
    repeat' first|refine Kz ?_|intro _
    refine TL.callv rfl rfl rfl rfl (Zs1 ht (pv:=.slice pa P.length ca) (fv:=.slice pb F.length cb) (pts:=P) (fcs:=F) (p:=p) (q:=c) (y:=false)) ?_
    rw [Zc9 hg hp hc hpc,hr']
    rintro _ _ ⟨rfl,rfl⟩
    show TL _ _ _ _ _ ((_,.tuple #[.agg #[.string ⟨(tN (t')).toArray⟩,.string ⟨(tD (t')).toArray⟩],.int .i64 (j':Int),.int .i64 0])::_) _ _
    repeat' first|refine Kz ?_|intro _
    refine TL.callv rfl rfl rfl rfl (Zgp (r:=1) (s:=1 - t') (fit1.mono (by decide)) (fu.mono (by decide)) (by rw [show 1 - (1 - t')=t' by grind];exact hft'.mono (by decide))) ?_
    rw [show 1 - (1 - t')=t' by grind]
    rintro _ _ ⟨rfl,rfl⟩
    repeat' first|refine Kz ?_|intro _
    refine TL.f rfl rfl (Z6a rfl rfl) ?_
    rw [show ∀ x z:List UInt8,decide (x=x∧z=z)=true by simp]
    repeat' first|refine Kz ?_|intro _
    (refine Zac ?_)
    exact ⟨_,rfl,Ents.refl _⟩
   ·have hsh:=fun Bs=>Zh8 (w0:=w0) (As:=Bs) (c:=c) (p:=p) (s:=1) hc hp (fit1.mono (by decide)) hpc
    rw [← Zkr c.x p.x,← Zkr c.y p.y,← Zkr c.z p.z] at hsh
    refine TL.callv rfl rfl rfl rfl (Zcw ht he (pv:=.slice pa P.length ca) (fv:=.slice pb F.length cb) (pts:=P) (fcs:=F) (p:=p)) ?_
    rw [Zws hg hp ha hs]
    rintro _ _ ⟨rfl,rfl⟩
    show TL _ _ _ _ _ ((_,.tuple #[.agg #[.string ⟨(tN ((p.x:Rat))).toArray⟩,.string ⟨(tD ((p.x:Rat))).toArray⟩,.string ⟨(tN ((p.y:Rat))).toArray⟩,.string ⟨(tD ((p.y:Rat))).toArray⟩,.string ⟨(tN ((p.z:Rat))).toArray⟩,.string ⟨(tD ((p.z:Rat))).toArray⟩],.int .i64 0])::_) _ _
    repeat' first|refine Kz ?_|intro _
    rename_i b11
    refine TL.callv rfl rfl rfl rfl (Zan ht he (pv:=.slice pa P.length ca) (fv:=.slice pb F.length cb) (pts:=P) (fcs:=F) (p:=p) (k:=m % 1000) (m:=1001+n % 9000)) ?_
    rw [hcw]
    rintro _ _ ⟨rfl,rfl⟩
    show TL _ _ _ _ _ ((_,.tuple #[.agg #[.string ⟨(tN ((c.x:Rat)+s * ((p.x - c.x:Int):Rat))).toArray⟩,.string ⟨(tD ((c.x:Rat)+s * ((p.x - c.x:Int):Rat))).toArray⟩,.string ⟨(tN ((c.y:Rat)+s * ((p.y - c.y:Int):Rat))).toArray⟩,.string ⟨(tD ((c.y:Rat)+s * ((p.y - c.y:Int):Rat))).toArray⟩,.string ⟨(tN ((c.z:Rat)+s * ((p.z - c.z:Int):Rat))).toArray⟩,.string ⟨(tD ((c.z:Rat)+s * ((p.z - c.z:Int):Rat))).toArray⟩],.int .i64 0])::_) _ _
    repeat' first|refine Kz ?_|intro _
    refine TL.callv rfl rfl rfl rfl (Zdo ht hg (p:=c) hc) ?_
    rw [h2]
    rintro _ _ ⟨rfl,rfl⟩
    repeat' first|refine Kz ?_|intro _
    refine Ks rfl (Zdo ht hg (p:=p) hp) ?_
    repeat' first|refine Kz ?_|intro _
    generalize (sideW P F p).1=S at *
    repeat' first|refine Kz ?_|intro _
    rw [hdec]
    repeat' first|refine Kz ?_|intro _
    refine TL.callv rfl rfl rfl rfl (Za0 (n:=1) (d:=1) (by decide) (by decide) (by decide)) ?_
    rw [h11]
    rintro _ _ ⟨rfl,rfl⟩
    repeat' first|refine Kz ?_|intro _
    refine TL.callv rfl rfl rfl rfl (Zs1 ht (pv:=.slice pa P.length ca) (fv:=.slice pb F.length cb) (pts:=P) (fcs:=F) (p:=c) (q:=p) (y:=true)) ?_
    rw [Zc9 hg hc hp (fun e=>hpc e.symm),hr]
    rintro _ _ ⟨rfl,rfl⟩
    show TL _ _ _ _ _ ((_,.tuple #[.agg #[.string ⟨(tN (t)).toArray⟩,.string ⟨(tD (t)).toArray⟩],.int .i64 (j:Int),.int .i64 0])::_) _ _
    repeat' first|refine Kz ?_|intro _
    refine Ks rfl (hsh _) ?_
    repeat' first|refine Kz ?_|intro _
    refine Ks rfl (Zh8 (c:=c) (p:=p) (s:=s) hc hp (hfs.mono (by decide)) hpc) ?_
    repeat' first|refine Kz ?_|intro _
    refine TL.callv rfl rfl rfl rfl (Zf1 (s:=1) (t:=1) (fit1.mono (by decide)) (fit1.mono (by decide))) ?_
    rw [decide_eq_true (show (0:Rat)≤1∧(1:Rat)≤1 from ⟨by decide,by decide⟩)]
    rintro _ _ ⟨rfl,rfl⟩
    repeat' first|refine Kz ?_|intro _
    refine TL.callv rfl rfl rfl rfl (Zf1 (s:=s) (t:=1) (hfs.mono (by decide)) (fit1.mono (by decide))) ?_
    rw [decide_eq_true ⟨s0,s1⟩]
    rintro _ _ ⟨rfl,rfl⟩
    repeat' first|refine Kz ?_|intro _
    refine TL.callv rfl rfl rfl rfl (Zf1 (s:=s) (t:=t) (hfs.mono (by decide)) (hft.mono (by decide))) ?_
    rw [decide_eq_true ⟨s0,st⟩]
    rintro _ _ ⟨rfl,rfl⟩
    repeat' first|refine Kz ?_|intro _
    refine Zaf [.cl b11 [.string ⟨(tN ((p.x:Rat))).toArray⟩,.string ⟨(tD ((p.x:Rat))).toArray⟩,.string ⟨(tN ((p.y:Rat))).toArray⟩,.string ⟨(tD ((p.y:Rat))).toArray⟩,.string ⟨(tN ((p.z:Rat))).toArray⟩,.string ⟨(tD ((p.z:Rat))).toArray⟩] 54,.cl b8 [.int .i64 p.x,.int .i64 p.y,.int .i64 p.z] 33] [] (.take 0 (.take 1 (.take 2 (.take 3 (.take 4 (.take 5 (.take 6 (.all [(7,.take 8 (.take 9 (.done)))])))))))) ?_
    repeat' first|refine Kf ?_|intro _|constructor
    refine Ku rfl (Zbk (x:=p.x) (y:=p.y) (z:=p.z) (by omega) (by omega) (by omega)) ?_
    unfold frtV
    repeat' first|refine Kf ?_|intro _|constructor
    refine TT.take rfl rfl rfl (Za1 rfl rfl) ?_
    rw [Zlr]
    repeat' first|refine Kf ?_|intro _|constructor
    (refine Zac ?_)
    exact ⟨_,rfl,Ents.refl _⟩
end Go.Proofs.YtngcfjfaobcpmaaGreatDoor

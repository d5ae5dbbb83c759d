/- Walks: IntentNeutral. -/
import Derived.Test.YtngcfjfaobcpmaaGreatDoorNl0
import Derived.Test.YtngcfjfaobcpmaaGreatDoorNk1
import Derived.Test.YtngcfjfaobcpmaaGreatDoorNp1
set_option maxHeartbeats 1000000
namespace Go.Sx
open Go
theorem Zqr {P F:List V3} {p:V3} {k m:Int} (hg:Good P F) (hp:isFar p=false) (h0:0≤k) (h1:k < 1000) (h2:1000 < m) (h3:m≤10000) :
  (clipW P F p=.inl 4∧compressW P F p k m=.inl 4)∨∃ x y z u v w,clipW P F p=.inr [x,y,z]∧compressW P F p k m=.inr [u,v,w]:=by
 cases ha:anchorO P F p with
 | none=>exact .inl ⟨Zuc hg hp ha,Zev hg hp h0 h1 h2 h3 ha⟩
 | some c =>
  refine .inr ?_
  have hc:∃ x y z,clipW P F p=.inr [x,y,z]:=by
   by_cases hs:(sideW P F p).1=0
   ·obtain ⟨_,t,j,_,_,h⟩:=Zmq hg hp ha hs;exact ⟨_,_,_,h⟩
   ·exact ⟨_,_,_,Zws hg hp ha hs⟩
  have hd:∃ x y z,compressW P F p k m=.inr [x,y,z]:=by
   by_cases hs:p=c
   ·subst hs;exact ⟨_,_,_,Zds hg hp h0 h1 h2 h3 ha⟩
   ·obtain ⟨t,j,s,_,_,_,_,_,_,_,_,h⟩:=Zel hg hp h0 h1 h2 h3 ha hs;exact ⟨_,_,_,h⟩
  obtain ⟨x,y,z,hc⟩:=hc
  obtain ⟨u,v,w,hd⟩:=hd
  exact ⟨x,y,z,u,v,w,hc,hd⟩
theorem Z35 {P F:List V3} {l k m:Int} (hg:Good P F) (hp:isFar ⟨l,0,0⟩=false) (h0:0≤k) (h1:k < 1000) (h2:1000 < m) (h3:m≤10000) :
  (clipW P F ⟨l,0,0⟩=.inl 4∧compressW P F ⟨l,0,0⟩ k m=.inl 4)∨∃ x u,clipW P F ⟨l,0,0⟩=.inr [x,0,0]∧compressW P F ⟨l,0,0⟩ k m=.inr [u,0,0]:=by
 rcases Zqr hg hp h0 h1 h2 h3 with h|⟨x,y,z,u,v,w,hc,hd⟩
 ·exact .inl h
 ·obtain ⟨a,ha⟩:=Z4v hc
  obtain ⟨b,hb⟩:=Zr2 hd
  rw [ha] at hc
  rw [hb] at hd
  exact .inr ⟨a,b,hc,hd⟩
theorem Yhq {T U:TypeId} {R:List Ent} {a b:Value} {xs ys:List V3}:Ents (.ow cV3 T a xs::.ow cV3 U b ys::R) (.ft (rd cV3 a xs)::.ft (rd cV3 b ys)::R) :=
 Ents.trans Ents.freeze (Ents.trans (Ents.perm (List.Perm.swap _ _ _)) (Ents.trans Ents.freeze (Ents.perm (List.Perm.swap _ _ _))))
end Go.Sx
namespace Go.Proofs.YtngcfjfaobcpmaaGreatDoor
open Go Go.Sx
variable {w0:World} {As:List Ent} {pv fv:Value} {pts fcs:List V3}
set_option maxRecDepth 100000 in
set_option maxHeartbeats 2000000 in
theorem Zl4 (ht:Tab w0) (he:ErrR w0) (d:DraftA) (hd:d.ok) {l:Int} (hl:0≤l∧l≤65535) {y:PlaceA} (hy:y.ok) {u m n:Int} (hu:0≤u∧u≤4294967295) (hm:0≤m∧m≤65535) (hn:0≤n∧n≤65535) [RdIn As d.ov Int (cI .i8) d.off] :
  CallsS Tryz.prog w0 8 [.agg (d.cells++[Value.int .u16 l]).toArray,.agg y.cells.toArray,.int .u32 u,.agg #[.int .u16 m,.int .u16 n]] As fun u _=>u=.bool true:=by
 have hz:qI 0 1=0:=by decide +kernel
 refine Zak d.ov (xs:=d.off) (c:=cI .i8) fun hov=>?_
 refine Zab Tryz.func8 rfl Tryz.ntmps8 rfl ?_
 show Tri _ _ _ _ (env0 0 [.agg #[.int .u8 d.kd,.int .u8 d.sz,.int .i16 d.a0,.int .i16 d.a1,.int .i16 d.a2,d.ov,.bool d.tn,.int .u16 l],.agg #[.int .u8 y.a0,.int .u8 y.a1,.int .u8 y.a2,.int .u8 y.w0,.int .u8 y.w1,.int .u8 y.w2,.int .i16 y.o0,.int .i16 y.o1,.int .i16 y.o2],.int .u32 u,.agg #[.int .u16 m,.int .u16 n]]) _ _
 repeat' first|refine Kz ?_|intro _
 rename_i b4 b5 b7
 refine Kt rfl (Zey ht he) ?_
 repeat' first|refine Kz ?_|intro _
 refine TL.callv rfl rfl rfl rfl (Zmm d hd hl) ?_
 rintro _ _ ⟨P,F,hg,pv,fv,rfl,o1,o2,rfl⟩
 refine TL.ents Yhq ?_
 refine Zbn (c:=cV3) (xs:=P) pv fun pa ca e1=>Zbn (c:=cV3) (xs:=F) fv fun pb cb e2=>?_
 subst e1 e2
 have hl3:=hg.p300
 repeat' first|refine Kz ?_|intro _
 rename_i b9
 refine Zam (.take 0 (.take 1 (.take 2 (.take 3 (.take 4 (.take 5 (.take 6 (.take 7 (.take 8 (.take 9 (.take 10 (.done)))))))))))) ?_
 repeat' first|refine Kf ?_|intro _|constructor
 have k0:0≤m % 1000:=by omega
 have k1:m % 1000 < 1000:=by omega
 have k2:1000 < 1001+n % 9000:=by omega
 have k3:1001+n % 9000≤10000:=by omega
 have g0:0≤u % 200001∧u % 200001≤200000:=by omega
 generalize m % 1000=K at *
 generalize 1001+n % 9000=M at *
 generalize u % 200001=G at *
 have hgf:isFar ⟨G,0,0⟩=false:=by rw [Zkb];simp only;omega
 have hgr:=Z35 hg hgf k0 k1 k2 k3
 rename_i b12
 rcases hgr with ⟨e1,e2⟩|⟨gx,gu,e1,e2⟩
 ·refine TL.callv rfl rfl rfl rfl (Zcw ht he (pv:=.slice pa P.length ca) (fv:=.slice pb F.length cb) (pts:=P) (fcs:=F) (p:=⟨G,0,0⟩)) ?_
  rw [e1]
  rintro _ _ ⟨rfl,rfl⟩
  show TL _ _ _ _ _ ((_,.tuple #[.agg #[.string ⟨#[]⟩,.string ⟨#[]⟩,.string ⟨#[]⟩,.string ⟨#[]⟩,.string ⟨#[]⟩,.string ⟨#[]⟩],.int .i64 4])::_) _ _
  repeat' first|refine Kz ?_|intro _
  refine TL.callv rfl rfl rfl rfl (Zan ht he (pv:=.slice pa P.length ca) (fv:=.slice pb F.length cb) (pts:=P) (fcs:=F) (p:=⟨G,0,0⟩) (k:=K) (m:=M)) ?_
  rw [e2]
  rintro _ _ ⟨rfl,rfl⟩
  show TL _ _ _ _ _ ((_,.tuple #[.agg #[.string ⟨#[]⟩,.string ⟨#[]⟩,.string ⟨#[]⟩,.string ⟨#[]⟩,.string ⟨#[]⟩,.string ⟨#[]⟩],.int .i64 4])::_) _ _
  repeat' first|refine Kz ?_|intro _
  refine TL.callv rfl rfl rfl rfl (Za0 (n:=0) (d:=1) (by decide) (by decide) (by decide)) ?_
  rw [hz]
  rintro _ _ ⟨rfl,rfl⟩
  repeat' first|refine Kz ?_|intro _
  clear e1 e2
  rename_i c13 c15 c17
  refine TL.f rfl rfl (ExF.build (vs:=[.slice pb F.length cb]) (l:=[.slice none 0 0,.slice pb F.length cb]) rfl (fun w=>by kernel_rfl)) ?_
  repeat' first|refine Kz ?_|intro _
  rename_i b19
  refine Tri.ents (Zbj (T:=33) cV3) ?_
  refine Tri.loop (ι:=Nat × Option Addr × Nat) (fun s=>s.1≤P.length) (fun s=>P.length - s.1)
   (fun s=>[(5,.pointer (some ⟨b5,0,none⟩)),(9,.pointer (some ⟨b9,0,none⟩)),(10,.int .i64 K),(11,.int .i64 M),(13,.pointer (some ⟨c13,0,none⟩)),(15,.pointer (some ⟨c15,0,none⟩)),(19,.pointer (some ⟨b19,0,none⟩)),(105,.slice pa P.length ca),(106,.int .i64 P.length),(107,.int .i64 (s.1:Int))])
   (fun s=>.ow cV3 33 (.slice s.2.1 s.1 s.2.2) ((P.take s.1).map swV)::.cl b19 [.slice s.2.1 s.1 s.2.2,.slice pb F.length cb] 36::.cl c15 [.string ⟨#[]⟩,.string ⟨#[]⟩,.string ⟨#[]⟩,.string ⟨#[]⟩,.string ⟨#[]⟩,.string ⟨#[]⟩] 54::.cl c13 [.string ⟨#[]⟩,.string ⟨#[]⟩,.string ⟨#[]⟩,.string ⟨#[]⟩,.string ⟨#[]⟩,.string ⟨#[]⟩] 54::.cl b9 [.slice pa P.length ca,.slice pb F.length cb] 36::.ft (rd cV3 (.slice pa P.length ca) P)::.ft (rd cV3 (.slice pb F.length cb) F)::.cl b5 [.int .u8 y.a0,.int .u8 y.a1,.int .u8 y.a2,.int .u8 y.w0,.int .u8 y.w1,.int .u8 y.w2,.int .i16 y.o0,.int .i16 y.o1,.int .i16 y.o2] 32::As) (0,none,0) (by simp) Zad (by simp only [List.take_zero,List.map_nil];(exact Zaa)) ?_
  rintro ⟨k,p2,c2⟩ hkl
  simp only at hkl
  have hlen:((P.take k).map swV).length=k:=by simp;omega
  generalize hxs:(P.take k).map swV=xs at hlen ⊢
  show Tri _ _ _ _ [(5,_),(9,_),(10,_),(11,_),(13,_),(15,_),(19,_),(105,_),(106,_),(107,.int .i64 (k:Int))] (.ow cV3 33 (.slice p2 k c2) xs::.cl b19 [.slice p2 k c2,.slice pb F.length cb] 36::_) _
  repeat' first|refine Kz ?_|intro _
  (refine Kx (fun hc=>?_) fun hc=>?_)
  ·obtain ⟨f,hp⟩:∃ p,P[k]?=some p:=⟨_,List.getElem?_eq_getElem (by omega)⟩
   repeat' first|refine Kz ?_|intro _
   rename_i b21 bs v8
   refine Zem (As:=.cl b19 [v8,.slice pb F.length cb] 36::.ow cV3 33 v8 (xs++[⟨f.x,f.z,f.y⟩])::.cl b21 [.int .i64 f.x,.int .i64 f.y,.int .i64 f.z] 33::.cl c15 [.string ⟨#[]⟩,.string ⟨#[]⟩,.string ⟨#[]⟩,.string ⟨#[]⟩,.string ⟨#[]⟩,.string ⟨#[]⟩] 54::.cl c13 [.string ⟨#[]⟩,.string ⟨#[]⟩,.string ⟨#[]⟩,.string ⟨#[]⟩,.string ⟨#[]⟩,.string ⟨#[]⟩] 54::.cl b9 [.slice pa P.length ca,.slice pb F.length cb] 36::.ft (rd cV3 (.slice pa P.length ca) P)::.ft (rd cV3 (.slice pb F.length cb) F)::.cl b5 [.int .u8 y.a0,.int .u8 y.a1,.int .u8 y.a2,.int .u8 y.w0,.int .u8 y.w1,.int .u8 y.w2,.int .i16 y.o0,.int .i16 y.o1,.int .i16 y.o2] 32::As) v8 ?_
   rintro p8 c8 hv8
   have el:(xs++[(⟨f.x,f.z,f.y⟩:V3)]).length=k+1:=by simp [hlen]
   rw [el] at hv8
   subst hv8
   refine Post.round (k+1,p8,c8) (by simp only;omega) (by simp only;omega) Zad ?_
   show Ents _ (.ow cV3 _ (.slice p8 (k+1) c8) ((P.take (k+1)).map swV)::.cl b19 [.slice p8 (k+1) c8,.slice pb F.length cb] _::_)
   rw [show (P.take (k+1)).map swV=(P.take k).map swV++[swV f] by rw [List.take_add_one,hp,List.map_append];rfl,hxs,show swV f=⟨f.x,f.z,f.y⟩ from rfl]
   (exact Zaa)
  ·have hk':k=P.length:=by omega
   subst hk'
   rw [List.take_length] at hxs
   subst hxs
   repeat' first|refine Kz ?_|intro _
   refine TL.callv rfl rfl rfl rfl (Zca (x:=y) (pv:=.slice pa P.length ca) (fv:=.slice pb F.length cb) hy hg) ?_
   rintro _ _ ⟨p,hp,rfl,rfl⟩
   show TL _ _ _ _ _ ((_,.agg #[.int .i64 p.x,.int .i64 p.y,.int .i64 p.z])::_) _ _
   repeat' first|refine Kz ?_|intro _
   have hcs:=Z4u (p:=p) hg
   have hps:=Zn9 (p:=p) (k:=K) (m:=M) hg
   rcases Zqr hg hp k0 k1 k2 k3 with ⟨e1,e2⟩|⟨x1,x2,x3,z1,z2,z3,e1,e2⟩
   ·rw [e1] at hcs
    rw [e2] at hps
    replace hcs:clipW (P.map swV) F (swV p)=.inl 4:=hcs
    replace hps:compressW (P.map swV) F (swV p) K M=.inl 4:=hps
    refine TL.callv rfl rfl rfl rfl (Zcw ht he (pv:=.slice pa P.length ca) (fv:=.slice pb F.length cb) (pts:=P) (fcs:=F) (p:=p)) ?_
    rw [e1]
    rintro _ _ ⟨rfl,rfl⟩
    show TL _ _ _ _ _ ((_,.tuple #[.agg #[.string ⟨#[]⟩,.string ⟨#[]⟩,.string ⟨#[]⟩,.string ⟨#[]⟩,.string ⟨#[]⟩,.string ⟨#[]⟩],.int .i64 4])::_) _ _
    repeat' first|refine Kz ?_|intro _
    refine TL.callv rfl rfl rfl rfl (Zcw ht he (pv:=.slice p2 P.length c2) (fv:=.slice pb F.length cb) (pts:=P.map swV) (fcs:=F) (p:=swV p)) ?_
    rw [hcs]
    rintro _ _ ⟨rfl,rfl⟩
    show TL _ _ _ _ _ ((_,.tuple #[.agg #[.string ⟨#[]⟩,.string ⟨#[]⟩,.string ⟨#[]⟩,.string ⟨#[]⟩,.string ⟨#[]⟩,.string ⟨#[]⟩],.int .i64 4])::_) _ _
    repeat' first|refine Kz ?_|intro _
    refine TL.callv rfl rfl rfl rfl (Zan ht he (pv:=.slice pa P.length ca) (fv:=.slice pb F.length cb) (pts:=P) (fcs:=F) (p:=p) (k:=K) (m:=M)) ?_
    rw [e2]
    rintro _ _ ⟨rfl,rfl⟩
    show TL _ _ _ _ _ ((_,.tuple #[.agg #[.string ⟨#[]⟩,.string ⟨#[]⟩,.string ⟨#[]⟩,.string ⟨#[]⟩,.string ⟨#[]⟩,.string ⟨#[]⟩],.int .i64 4])::_) _ _
    repeat' first|refine Kz ?_|intro _
    refine TL.callv rfl rfl rfl rfl (Zan ht he (pv:=.slice p2 P.length c2) (fv:=.slice pb F.length cb) (pts:=P.map swV) (fcs:=F) (p:=swV p) (k:=K) (m:=M)) ?_
    rw [hps]
    rintro _ _ ⟨rfl,rfl⟩
    show TL _ _ _ _ _ ((_,.tuple #[.agg #[.string ⟨#[]⟩,.string ⟨#[]⟩,.string ⟨#[]⟩,.string ⟨#[]⟩,.string ⟨#[]⟩,.string ⟨#[]⟩],.int .i64 4])::_) _ _
    repeat' first|refine Kz ?_|intro _
    refine TL.f rfl rfl (Za1 (a:=[]) (b:=[]) (c:=[]) (d:=[]) (f:=[]) (g:=[]) (a':=[]) (b':=[]) (c':=[]) (d':=[]) (f':=[]) (g':=[]) rfl rfl) ?_
    rw [show ∀ a b c d f g:List UInt8,decide ((a=a∧b=b)∧(c=c∧d=d)∧(f=f∧g=g))=true by simp]
    repeat' first|refine Kz ?_|intro _
    refine TL.f rfl rfl (Za1 (a:=[]) (b:=[]) (c:=[]) (d:=[]) (f:=[]) (g:=[]) (a':=[]) (b':=[]) (c':=[]) (d':=[]) (f':=[]) (g':=[]) rfl rfl) ?_
    rw [show ∀ a b c d f g:List UInt8,decide ((a=a∧b=b)∧(c=c∧d=d)∧(f=f∧g=g))=true by simp]
    repeat' first|refine Kz ?_|intro _
    (refine Zac ?_)
    exact ⟨_,rfl,Ents.refl _⟩
   ·rw [e1] at hcs
    rw [e2] at hps
    replace hcs:clipW (P.map swV) F (swV p)=.inr [x1,x3,x2]:=hcs
    replace hps:compressW (P.map swV) F (swV p) K M=.inr [z1,z3,z2]:=hps
    refine TL.callv rfl rfl rfl rfl (Zcw ht he (pv:=.slice pa P.length ca) (fv:=.slice pb F.length cb) (pts:=P) (fcs:=F) (p:=p)) ?_
    rw [e1]
    rintro _ _ ⟨rfl,rfl⟩
    show TL _ _ _ _ _ ((_,.tuple #[.agg #[.string ⟨(tN x1).toArray⟩,.string ⟨(tD x1).toArray⟩,.string ⟨(tN x2).toArray⟩,.string ⟨(tD x2).toArray⟩,.string ⟨(tN x3).toArray⟩,.string ⟨(tD x3).toArray⟩],.int .i64 0])::_) _ _
    repeat' first|refine Kz ?_|intro _
    refine TL.callv rfl rfl rfl rfl (Zcw ht he (pv:=.slice p2 P.length c2) (fv:=.slice pb F.length cb) (pts:=P.map swV) (fcs:=F) (p:=swV p)) ?_
    rw [hcs]
    rintro _ _ ⟨rfl,rfl⟩
    show TL _ _ _ _ _ ((_,.tuple #[.agg #[.string ⟨(tN x1).toArray⟩,.string ⟨(tD x1).toArray⟩,.string ⟨(tN x3).toArray⟩,.string ⟨(tD x3).toArray⟩,.string ⟨(tN x2).toArray⟩,.string ⟨(tD x2).toArray⟩],.int .i64 0])::_) _ _
    repeat' first|refine Kz ?_|intro _
    refine TL.callv rfl rfl rfl rfl (Zan ht he (pv:=.slice pa P.length ca) (fv:=.slice pb F.length cb) (pts:=P) (fcs:=F) (p:=p) (k:=K) (m:=M)) ?_
    rw [e2]
    rintro _ _ ⟨rfl,rfl⟩
    show TL _ _ _ _ _ ((_,.tuple #[.agg #[.string ⟨(tN z1).toArray⟩,.string ⟨(tD z1).toArray⟩,.string ⟨(tN z2).toArray⟩,.string ⟨(tD z2).toArray⟩,.string ⟨(tN z3).toArray⟩,.string ⟨(tD z3).toArray⟩],.int .i64 0])::_) _ _
    repeat' first|refine Kz ?_|intro _
    refine TL.callv rfl rfl rfl rfl (Zan ht he (pv:=.slice p2 P.length c2) (fv:=.slice pb F.length cb) (pts:=P.map swV) (fcs:=F) (p:=swV p) (k:=K) (m:=M)) ?_
    rw [hps]
    rintro _ _ ⟨rfl,rfl⟩
    show TL _ _ _ _ _ ((_,.tuple #[.agg #[.string ⟨(tN z1).toArray⟩,.string ⟨(tD z1).toArray⟩,.string ⟨(tN z3).toArray⟩,.string ⟨(tD z3).toArray⟩,.string ⟨(tN z2).toArray⟩,.string ⟨(tD z2).toArray⟩],.int .i64 0])::_) _ _
    repeat' first|refine Kz ?_|intro _
    refine TL.f rfl rfl (Za1 rfl rfl) ?_
    rw [show ∀ a b c d f g:List UInt8,decide ((a=a∧b=b)∧(c=c∧d=d)∧(f=f∧g=g))=true by simp]
    repeat' first|refine Kz ?_|intro _
    refine TL.f rfl rfl (Za1 rfl rfl) ?_
    rw [show ∀ a b c d f g:List UInt8,decide ((a=a∧b=b)∧(c=c∧d=d)∧(f=f∧g=g))=true by simp]
    repeat' first|refine Kz ?_|intro _
    (refine Zac ?_)
    exact ⟨_,rfl,Ents.refl _⟩
 ·refine TL.callv rfl rfl rfl rfl (Zcw ht he (pv:=.slice pa P.length ca) (fv:=.slice pb F.length cb) (pts:=P) (fcs:=F) (p:=⟨G,0,0⟩)) ?_
  rw [e1]
  rintro _ _ ⟨rfl,rfl⟩
  show TL _ _ _ _ _ ((_,.tuple #[.agg #[.string ⟨(tN gx).toArray⟩,.string ⟨(tD gx).toArray⟩,.string ⟨(tN 0).toArray⟩,.string ⟨(tD 0).toArray⟩,.string ⟨(tN 0).toArray⟩,.string ⟨(tD 0).toArray⟩],.int .i64 0])::_) _ _
  repeat' first|refine Kz ?_|intro _
  refine TL.callv rfl rfl rfl rfl (Zan ht he (pv:=.slice pa P.length ca) (fv:=.slice pb F.length cb) (pts:=P) (fcs:=F) (p:=⟨G,0,0⟩) (k:=K) (m:=M)) ?_
  rw [e2]
  rintro _ _ ⟨rfl,rfl⟩
  show TL _ _ _ _ _ ((_,.tuple #[.agg #[.string ⟨(tN gu).toArray⟩,.string ⟨(tD gu).toArray⟩,.string ⟨(tN 0).toArray⟩,.string ⟨(tD 0).toArray⟩,.string ⟨(tN 0).toArray⟩,.string ⟨(tD 0).toArray⟩],.int .i64 0])::_) _ _
  repeat' first|refine Kz ?_|intro _
  refine TL.callv rfl rfl rfl rfl (Za0 (n:=0) (d:=1) (by decide) (by decide) (by decide)) ?_
  rw [hz]
  rintro _ _ ⟨rfl,rfl⟩
  repeat' first|refine Kz ?_|intro _
  refine TL.f rfl rfl (Zen rfl rfl) ?_
  rw [show ∀ x z:List UInt8,(!decide (x=x∧z=z))=false by simp]
  repeat' first|refine Kz ?_|intro _
  refine TL.f rfl rfl (Zen rfl rfl) ?_
  rw [show ∀ x z:List UInt8,(!decide (x=x∧z=z))=false by simp]
  repeat' first|refine Kz ?_|intro _
  refine TL.f rfl rfl (Zen rfl rfl) ?_
  rw [show ∀ x z:List UInt8,(!decide (x=x∧z=z))=false by simp]
  repeat' first|refine Kz ?_|intro _
  refine TL.f rfl rfl (Zen rfl rfl) ?_
  rw [show ∀ x z:List UInt8,(!decide (x=x∧z=z))=false by simp]
  repeat' first|refine Kz ?_|intro _
  clear e1 e2
  rename_i c13 c15 c17
  refine TL.f rfl rfl (ExF.build (vs:=[.slice pb F.length cb]) (l:=[.slice none 0 0,.slice pb F.length cb]) rfl (fun w=>by kernel_rfl)) ?_
  repeat' first|refine Kz ?_|intro _
  rename_i b19
  refine Tri.ents (Zbj (T:=33) cV3) ?_
  refine Tri.loop (ι:=Nat × Option Addr × Nat) (fun s=>s.1≤P.length) (fun s=>P.length - s.1)
   (fun s=>[(5,.pointer (some ⟨b5,0,none⟩)),(9,.pointer (some ⟨b9,0,none⟩)),(10,.int .i64 K),(11,.int .i64 M),(13,.pointer (some ⟨c13,0,none⟩)),(15,.pointer (some ⟨c15,0,none⟩)),(19,.pointer (some ⟨b19,0,none⟩)),(105,.slice pa P.length ca),(106,.int .i64 P.length),(107,.int .i64 (s.1:Int))])
   (fun s=>.ow cV3 33 (.slice s.2.1 s.1 s.2.2) ((P.take s.1).map swV)::.cl b19 [.slice s.2.1 s.1 s.2.2,.slice pb F.length cb] 36::.cl c15 [.string ⟨(tN gu).toArray⟩,.string ⟨(tD gu).toArray⟩,.string ⟨(tN 0).toArray⟩,.string ⟨(tD 0).toArray⟩,.string ⟨(tN 0).toArray⟩,.string ⟨(tD 0).toArray⟩] 54::.cl c13 [.string ⟨(tN gx).toArray⟩,.string ⟨(tD gx).toArray⟩,.string ⟨(tN 0).toArray⟩,.string ⟨(tD 0).toArray⟩,.string ⟨(tN 0).toArray⟩,.string ⟨(tD 0).toArray⟩] 54::.cl b9 [.slice pa P.length ca,.slice pb F.length cb] 36::.ft (rd cV3 (.slice pa P.length ca) P)::.ft (rd cV3 (.slice pb F.length cb) F)::.cl b5 [.int .u8 y.a0,.int .u8 y.a1,.int .u8 y.a2,.int .u8 y.w0,.int .u8 y.w1,.int .u8 y.w2,.int .i16 y.o0,.int .i16 y.o1,.int .i16 y.o2] 32::As) (0,none,0) (by simp) Zad (by simp only [List.take_zero,List.map_nil];(exact Zaa)) ?_
  rintro ⟨k,p2,c2⟩ hkl
  simp only at hkl
  have hlen:((P.take k).map swV).length=k:=by simp;omega
  generalize hxs:(P.take k).map swV=xs at hlen ⊢
  show Tri _ _ _ _ [(5,_),(9,_),(10,_),(11,_),(13,_),(15,_),(19,_),(105,_),(106,_),(107,.int .i64 (k:Int))] (.ow cV3 33 (.slice p2 k c2) xs::.cl b19 [.slice p2 k c2,.slice pb F.length cb] 36::_) _
  repeat' first|refine Kz ?_|intro _
  (refine Kx (fun hc=>?_) fun hc=>?_)
  ·obtain ⟨f,hp⟩:∃ p,P[k]?=some p:=⟨_,List.getElem?_eq_getElem (by omega)⟩
   repeat' first|refine Kz ?_|intro _
   rename_i b21 bs v8
   refine Zem (As:=.cl b19 [v8,.slice pb F.length cb] 36::.ow cV3 33 v8 (xs++[⟨f.x,f.z,f.y⟩])::.cl b21 [.int .i64 f.x,.int .i64 f.y,.int .i64 f.z] 33::.cl c15 [.string ⟨(tN gu).toArray⟩,.string ⟨(tD gu).toArray⟩,.string ⟨(tN 0).toArray⟩,.string ⟨(tD 0).toArray⟩,.string ⟨(tN 0).toArray⟩,.string ⟨(tD 0).toArray⟩] 54::.cl c13 [.string ⟨(tN gx).toArray⟩,.string ⟨(tD gx).toArray⟩,.string ⟨(tN 0).toArray⟩,.string ⟨(tD 0).toArray⟩,.string ⟨(tN 0).toArray⟩,.string ⟨(tD 0).toArray⟩] 54::.cl b9 [.slice pa P.length ca,.slice pb F.length cb] 36::.ft (rd cV3 (.slice pa P.length ca) P)::.ft (rd cV3 (.slice pb F.length cb) F)::.cl b5 [.int .u8 y.a0,.int .u8 y.a1,.int .u8 y.a2,.int .u8 y.w0,.int .u8 y.w1,.int .u8 y.w2,.int .i16 y.o0,.int .i16 y.o1,.int .i16 y.o2] 32::As) v8 ?_
   rintro p8 c8 hv8
   have el:(xs++[(⟨f.x,f.z,f.y⟩:V3)]).length=k+1:=by simp [hlen]
   rw [el] at hv8
   subst hv8
   refine Post.round (k+1,p8,c8) (by simp only;omega) (by simp only;omega) Zad ?_
   show Ents _ (.ow cV3 _ (.slice p8 (k+1) c8) ((P.take (k+1)).map swV)::.cl b19 [.slice p8 (k+1) c8,.slice pb F.length cb] _::_)
   rw [show (P.take (k+1)).map swV=(P.take k).map swV++[swV f] by rw [List.take_add_one,hp,List.map_append];rfl,hxs,show swV f=⟨f.x,f.z,f.y⟩ from rfl]
   (exact Zaa)
  ·have hk':k=P.length:=by omega
   subst hk'
   rw [List.take_length] at hxs
   subst hxs
   repeat' first|refine Kz ?_|intro _
   refine TL.callv rfl rfl rfl rfl (Zca (x:=y) (pv:=.slice pa P.length ca) (fv:=.slice pb F.length cb) hy hg) ?_
   rintro _ _ ⟨p,hp,rfl,rfl⟩
   show TL _ _ _ _ _ ((_,.agg #[.int .i64 p.x,.int .i64 p.y,.int .i64 p.z])::_) _ _
   repeat' first|refine Kz ?_|intro _
   have hcs:=Z4u (p:=p) hg
   have hps:=Zn9 (p:=p) (k:=K) (m:=M) hg
   rcases Zqr hg hp k0 k1 k2 k3 with ⟨e1,e2⟩|⟨x1,x2,x3,z1,z2,z3,e1,e2⟩
   ·rw [e1] at hcs
    rw [e2] at hps
    replace hcs:clipW (P.map swV) F (swV p)=.inl 4:=hcs
    replace hps:compressW (P.map swV) F (swV p) K M=.inl 4:=hps
    refine TL.callv rfl rfl rfl rfl (Zcw ht he (pv:=.slice pa P.length ca) (fv:=.slice pb F.length cb) (pts:=P) (fcs:=F) (p:=p)) ?_
    rw [e1]
    rintro _ _ ⟨rfl,rfl⟩
    show TL _ _ _ _ _ ((_,.tuple #[.agg #[.string ⟨#[]⟩,.string ⟨#[]⟩,.string ⟨#[]⟩,.string ⟨#[]⟩,.string ⟨#[]⟩,.string ⟨#[]⟩],.int .i64 4])::_) _ _
    repeat' first|refine Kz ?_|intro _
    refine TL.callv rfl rfl rfl rfl (Zcw ht he (pv:=.slice p2 P.length c2) (fv:=.slice pb F.length cb) (pts:=P.map swV) (fcs:=F) (p:=swV p)) ?_
    rw [hcs]
    rintro _ _ ⟨rfl,rfl⟩
    show TL _ _ _ _ _ ((_,.tuple #[.agg #[.string ⟨#[]⟩,.string ⟨#[]⟩,.string ⟨#[]⟩,.string ⟨#[]⟩,.string ⟨#[]⟩,.string ⟨#[]⟩],.int .i64 4])::_) _ _
    repeat' first|refine Kz ?_|intro _
    refine TL.callv rfl rfl rfl rfl (Zan ht he (pv:=.slice pa P.length ca) (fv:=.slice pb F.length cb) (pts:=P) (fcs:=F) (p:=p) (k:=K) (m:=M)) ?_
    rw [e2]
    rintro _ _ ⟨rfl,rfl⟩
    show TL _ _ _ _ _ ((_,.tuple #[.agg #[.string ⟨#[]⟩,.string ⟨#[]⟩,.string ⟨#[]⟩,.string ⟨#[]⟩,.string ⟨#[]⟩,.string ⟨#[]⟩],.int .i64 4])::_) _ _
    repeat' first|refine Kz ?_|intro _
    refine TL.callv rfl rfl rfl rfl (Zan ht he (pv:=.slice p2 P.length c2) (fv:=.slice pb F.length cb) (pts:=P.map swV) (fcs:=F) (p:=swV p) (k:=K) (m:=M)) ?_
    rw [hps]
    rintro _ _ ⟨rfl,rfl⟩
    show TL _ _ _ _ _ ((_,.tuple #[.agg #[.string ⟨#[]⟩,.string ⟨#[]⟩,.string ⟨#[]⟩,.string ⟨#[]⟩,.string ⟨#[]⟩,.string ⟨#[]⟩],.int .i64 4])::_) _ _
    repeat' first|refine Kz ?_|intro _
    refine TL.f rfl rfl (Za1 (a:=[]) (b:=[]) (c:=[]) (d:=[]) (f:=[]) (g:=[]) (a':=[]) (b':=[]) (c':=[]) (d':=[]) (f':=[]) (g':=[]) rfl rfl) ?_
    rw [show ∀ a b c d f g:List UInt8,decide ((a=a∧b=b)∧(c=c∧d=d)∧(f=f∧g=g))=true by simp]
    repeat' first|refine Kz ?_|intro _
    refine TL.f rfl rfl (Za1 (a:=[]) (b:=[]) (c:=[]) (d:=[]) (f:=[]) (g:=[]) (a':=[]) (b':=[]) (c':=[]) (d':=[]) (f':=[]) (g':=[]) rfl rfl) ?_
    rw [show ∀ a b c d f g:List UInt8,decide ((a=a∧b=b)∧(c=c∧d=d)∧(f=f∧g=g))=true by simp]
    repeat' first|refine Kz ?_|intro _
    (refine Zac ?_)
    exact ⟨_,rfl,Ents.refl _⟩
   ·rw [e1] at hcs
    rw [e2] at hps
    replace hcs:clipW (P.map swV) F (swV p)=.inr [x1,x3,x2]:=hcs
    replace hps:compressW (P.map swV) F (swV p) K M=.inr [z1,z3,z2]:=hps
    refine TL.callv rfl rfl rfl rfl (Zcw ht he (pv:=.slice pa P.length ca) (fv:=.slice pb F.length cb) (pts:=P) (fcs:=F) (p:=p)) ?_
    rw [e1]
    rintro _ _ ⟨rfl,rfl⟩
    show TL _ _ _ _ _ ((_,.tuple #[.agg #[.string ⟨(tN x1).toArray⟩,.string ⟨(tD x1).toArray⟩,.string ⟨(tN x2).toArray⟩,.string ⟨(tD x2).toArray⟩,.string ⟨(tN x3).toArray⟩,.string ⟨(tD x3).toArray⟩],.int .i64 0])::_) _ _
    repeat' first|refine Kz ?_|intro _
    refine TL.callv rfl rfl rfl rfl (Zcw ht he (pv:=.slice p2 P.length c2) (fv:=.slice pb F.length cb) (pts:=P.map swV) (fcs:=F) (p:=swV p)) ?_
    rw [hcs]
    rintro _ _ ⟨rfl,rfl⟩
    show TL _ _ _ _ _ ((_,.tuple #[.agg #[.string ⟨(tN x1).toArray⟩,.string ⟨(tD x1).toArray⟩,.string ⟨(tN x3).toArray⟩,.string ⟨(tD x3).toArray⟩,.string ⟨(tN x2).toArray⟩,.string ⟨(tD x2).toArray⟩],.int .i64 0])::_) _ _
    repeat' first|refine Kz ?_|intro _
    refine TL.callv rfl rfl rfl rfl (Zan ht he (pv:=.slice pa P.length ca) (fv:=.slice pb F.length cb) (pts:=P) (fcs:=F) (p:=p) (k:=K) (m:=M)) ?_
    rw [e2]
    rintro _ _ ⟨rfl,rfl⟩
    show TL _ _ _ _ _ ((_,.tuple #[.agg #[.string ⟨(tN z1).toArray⟩,.string ⟨(tD z1).toArray⟩,.string ⟨(tN z2).toArray⟩,.string ⟨(tD z2).toArray⟩,.string ⟨(tN z3).toArray⟩,.string ⟨(tD z3).toArray⟩],.int .i64 0])::_) _ _
    repeat' first|refine Kz ?_|intro _
    refine TL.callv rfl rfl rfl rfl (Zan ht he (pv:=.slice p2 P.length c2) (fv:=.slice pb F.length cb) (pts:=P.map swV) (fcs:=F) (p:=swV p) (k:=K) (m:=M)) ?_
    rw [hps]
    rintro _ _ ⟨rfl,rfl⟩
    show TL _ _ _ _ _ ((_,.tuple #[.agg #[.string ⟨(tN z1).toArray⟩,.string ⟨(tD z1).toArray⟩,.string ⟨(tN z3).toArray⟩,.string ⟨(tD z3).toArray⟩,.string ⟨(tN z2).toArray⟩,.string ⟨(tD z2).toArray⟩],.int .i64 0])::_) _ _
    repeat' first|refine Kz ?_|intro _
    refine TL.f rfl rfl (Za1 rfl rfl) ?_
    rw [show ∀ a b c d f g:List UInt8,decide ((a=a∧b=b)∧(c=c∧d=d)∧(f=f∧g=g))=true by simp]
    repeat' first|refine Kz ?_|intro _
    refine TL.f rfl rfl (Za1 rfl rfl) ?_
    rw [show ∀ a b c d f g:List UInt8,decide ((a=a∧b=b)∧(c=c∧d=d)∧(f=f∧g=g))=true by simp]
    repeat' first|refine Kz ?_|intro _
    (refine Zac ?_)
    exact ⟨_,rfl,Ents.refl _⟩
end Go.Proofs.YtngcfjfaobcpmaaGreatDoor

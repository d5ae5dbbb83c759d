/- Walks: PatchOnce: joined lists. -/
import Derived.Test.YtciadfpomkdlnaaGreatDoorPl3
import Derived.Test.YtciadfpomkdlnaaGreatDoorPp8
set_option maxHeartbeats 1000000
namespace Go.Proofs.YtciadfpomkdlnaaGreatDoor.Q
open Go Go.Sx
variable {w0:World} {As:List Ent}
def InB (l:List PP) (d:List Int) (x0 x1 y0 y1 z0 z1:Int):Prop:=∀ p∈selG l d,(x0≤p.2.2.1∧p.2.2.1≤x1)∧(y0≤p.2.2.2.1∧p.2.2.2.1≤y1)∧(z0≤p.2.2.2.2∧p.2.2.2.2≤z1)
structure B6 where
 x0:Int
 x1:Int
 y0:Int
 y1:Int
 z0:Int
 z1:Int
theorem Znx {l:List PP} {i:Nat} {p:PP} {d:List Int} (h:l[i]?=some p):selG (l.take (i+1)) d=if p.2.1=d then selG (l.take i) d++[p] else selG (l.take i) d:=by
 rw [List.take_add_one,h]
 by_cases hd:p.2.1=d
 ·rw [if_pos hd];exact Zpv hd
 ·rw [if_neg hd];exact Zpu hd
theorem Z0p {l:List PP} {i:Nat} {p:PP} {d:List Int} {x0 x1 y0 y1 z0 z1 x0' x1' y0' y1' z0' z1':Int} (h:l[i]?=some p) (hd:p.2.1=d) (hb:InB (l.take i) d x0 x1 y0 y1 z0 z1)
  (hx:(selG (l.take i) d).length≠0→(x0'≤x0∧x1≤x1')∧(y0'≤y0∧y1≤y1')∧(z0'≤z0∧z1≤z1')) (hv:(x0'≤p.2.2.1∧p.2.2.1≤x1')∧(y0'≤p.2.2.2.1∧p.2.2.2.1≤y1')∧(z0'≤p.2.2.2.2∧p.2.2.2.2≤z1')) :
  InB (l.take (i+1)) d x0' x1' y0' y1' z0' z1':=by
 unfold InB
 rw [Znx h,if_pos hd]
 intro q hq
 rcases List.mem_append.1 hq with hq|hq
 ·have h1:=hb q hq
  have h2:=hx (fun e=>by rw [List.length_eq_zero_iff.1 e] at hq;cases hq)
  omega
 ·rw [List.mem_singleton.1 hq];exact hv
theorem Zv3 {l:List PP} {i:Nat} {r:PP} {x0 x1 y0 y1 z0 z1:Int} (h:(mergeP l)[i]?=some r) (hb:InB l r.2.1 x0 x1 y0 y1 z0 z1) :
  1≤(selG l r.2.1).length∧(x0≤r.2.2.1∧r.2.2.1≤x1)∧(y0≤r.2.2.2.1∧r.2.2.2.1≤y1)∧(z0≤r.2.2.2.2∧r.2.2.2.2≤z1):=by
 unfold mergeP at h
 rw [List.getElem?_map] at h
 cases hg:(mergeG l)[i]? with
 | none=>rw [hg] at h;cases h
 | some g =>
  rw [hg] at h
  cases h
  obtain ⟨_,k3,k4,k5,k6,k7⟩:=(Zft l).grp g (List.mem_of_getElem? hg)
  refine ⟨?_,Zfu (f:=(·.2.2.1)) k3 k4 k5 fun p hp=>(hb p hp).1,Zfu (f:=(·.2.2.2.1)) k3 k4 k6 fun p hp=>(hb p hp).2.1,Zfu (f:=(·.2.2.2.2)) k3 k4 k7 fun p hp=>(hb p hp).2.2⟩
  show 1≤(selG l g.dev).length
  omega
set_option maxRecDepth 100000 in
set_option maxHeartbeats 1000000 in
theorem Z1a (ht:Tab w0) (he:ErrR w0) (hm:LenR w0) {ch:Nat} {lv:Value} {X:List W7} [hr:RdIn As lv W7 c7 X] (hok:∀ x∈X,x.ok) (hch:ch≤255) :
  CallsS Tryz.prog w0 5 [.agg #[.int .u8 (ch:Int),lv]] As fun u _=>u=.bool true:=by
 refine Zbh lv fun hlv=>?_
 refine Zab Tryz.func5 rfl Tryz.ntmps5 rfl ?_
 repeat' first|refine Kz ?_|intro _
 refine Kt rfl (Zfj ht he hm) ?_
 repeat' first|refine Kz ?_|intro _
 rename_i b1
 refine TL.callv rfl rfl rfl rfl (Zel ht hok hch) ?_
 rintro vl _ ⟨L,hL,rfl⟩
 refine Zqy (c:=cPt) (xs:=L) vl ?_
 rintro lp lc rfl
 have hcl:checkP (L.map ppOf)=true:=by rw [hL];exact Zeo
 clear hL
 repeat' first|refine Kz ?_|intro _
 refine TL.callv rfl rfl rfl rfl (Zm0 ht he (fun r hr=>Zay (L:=L) (by simp) r hr) (Zd2 hcl)) ?_
 rintro _ _ ⟨vm,M,hM,rfl,rfl⟩
 refine Zqy (c:=cPt) (xs:=M) vm ?_
 rintro mp mc rfl
 have hmo:mergeO (L.map ppOf)=(mergeP (L.map ppOf),0):=by unfold mergeO;rw [if_pos hcl]
 rw [hmo] at hM ⊢
 simp only at hM
 have hcm:checkP (M.map ppOf)=true:=by rw [hM];exact Zqg hcl
 repeat' first|refine Kz ?_|intro _
 refine TL.callv rfl rfl rfl rfl (Zm0 ht he (v:=.slice mp M.length mc) (fun r hr=>Zay (L:=M) (by simp) r hr) (Zd2 hcm)) ?_
 rintro _ _ ⟨va,A,hA,rfl,rfl⟩
 refine Zqy (c:=cPt) (xs:=A) va ?_
 rintro ap ac rfl
 have hma:mergeO (M.map ppOf)=(M.map ppOf,0):=by unfold mergeO;rw [if_pos hcm,hM,Zqi]
 rw [hma] at hA ⊢
 simp only at hA
 have hca:checkP (A.map ppOf)=true:=by rw [hA];exact hcm
 repeat' (show TL _ _ _ _ (_::_) _ _ _;refine Z6e ?_)
 iterate 3 refine Stp.h ?_
 have hI:=Zft (L.map ppOf)
 have hMl:M.length=(mergeG (L.map ppOf)).length:=by
  have:=congrArg List.length hM
  rw [List.length_map] at this
  rw [this];unfold mergeP;rw [List.length_map]
 have hle:M.length≤L.length:=by have:=hI.len;rw [List.length_map] at this;omega
 have hng:¬ (L.length:Int) < (M.length:Int):=by omega
 have hLf:=Zd3 hcl
 have hMf:=Zd3 hcm
 have hLn:=hLf.1
 have hMn:=hMf.1
 have hnd:=Zj3 (L.map ppOf)
 rw [← hM] at hnd
 have hML:(M.length:Int)=(L.length:Int)→M.map ppOf=L.map ppOf:=fun e=>by
  rw [hM]
  exact hI.full (by rw [List.length_map];omega)
 clear hI
 have hkey:∀ (t i:Nat) (r1 r2:RawP),t < i→M[t]?=some r1→M[i]?=some r2→¬ r1.dev=r2.dev:=by
  intro t i r1 r2 hlt h1 h2 e
  rw [List.Nodup,List.pairwise_iff_getElem] at hnd
  obtain ⟨g1,e1⟩:=List.getElem?_eq_some_iff.1 h1
  obtain ⟨g2,e2⟩:=List.getElem?_eq_some_iff.1 h2
  have:=hnd t i (by rw [List.length_map,List.length_map];exact g1) (by rw [List.length_map,List.length_map];exact g2) hlt
  rw [List.getElem_map,List.getElem_map,List.getElem_map,List.getElem_map,e1,e2] at this
  exact this e
 refine Tri.mid (fun e' As'=>e'=[(3,.slice lp L.length lc),(4,.slice mp M.length mc),(73,.bool false)]∧As'=.ow cPt 65 (.slice mp M.length mc) M::.ft (devPF M)::.ow cPt 65 (.slice lp L.length lc) L::.ft (devPF L)::As) ?_ ?_
 ·repeat' first|refine Kz ?_|intro _
  refine Ks rfl (Zi0 (v:=.slice mp M.length mc) (u:=.slice ap A.length ac) (A:=M) (B:=A) (fun r hr=>Zay (L:=M) (by simp) r hr) (fun r hr=>Zay (L:=A) (by simp) r hr) (Zd3 hcm) (Zd3 hca)) ?_
  rw [decide_eq_true hA.symm]
  repeat' first|refine Kz ?_|intro _
  refine Ks rfl (Zf0 (v:=.slice mp M.length mc) (L:=M) (fun r hr=>Zay (L:=M) (by simp) r hr) (Zd2 hcm)) ?_
  rw [if_pos hcm]
  by_cases heq:(M.length:Int)=(L.length:Int)
  ·repeat' first|refine Kz ?_|intro _
   refine Ks rfl (Zi0 (v:=.slice mp M.length mc) (u:=.slice lp L.length lc) (A:=M) (B:=L) (fun r hr=>Zay (L:=M) (by simp) r hr) (fun r hr=>Zay (L:=L) (by simp) r hr) (Zd3 hcm) (Zd3 hcl)) ?_
   rw [decide_eq_true (hML heq)]
   repeat' first|refine Kz ?_|intro _
   exact Post.cut _ _ ⟨rfl,rfl⟩ Zad Zaa
  ·repeat' first|refine Kz ?_|intro _
   exact Post.cut _ _ ⟨rfl,rfl⟩ Zad Zaa
 rintro _ _ ⟨rfl,rfl⟩
 clear hML hA hca hma hmo hng hle hcl hcm hMl hnd
 repeat' first|refine Kz ?_|intro _
 refine Tri.midB (fun e' As'=>e'=[(3,.slice lp L.length lc),(4,.slice mp M.length mc)]∧As'=.ow cPt 65 (.slice mp M.length mc) M::.ft (devPF M)::.ow cPt 65 (.slice lp L.length lc) L::.ft (devPF L)::As) ?_ ?_
 ·refine Tri.loop (ι:=Nat) (fun i=>i≤M.length) (fun i=>M.length - i) (fun i=>[(3,.slice lp L.length lc),(4,.slice mp M.length mc),(74,.slice mp M.length mc),(75,.int .i64 (M.length:Int)),(76,.int .i64 (i:Int))]) (fun _=>.ow cPt 65 (.slice mp M.length mc) M::.ft (devPF M)::.ow cPt 65 (.slice lp L.length lc) L::.ft (devPF L)::As) 0 (Nat.zero_le _) Zad Zaa ?_
  intro i hi
  repeat' first|refine Kz ?_|intro _
  (refine Kx (fun hc=>?_) fun hc=>?_)
  ·obtain ⟨r,hri⟩:∃ x,M[i]?=some x:=⟨_,List.getElem?_eq_getElem (by omega)⟩
   have hrl:=hMf.2 r (List.mem_of_getElem? hri)
   have hmi:(mergeP (L.map ppOf))[i]?=some (ppOf r):=by rw [← hM];exact Zd9 hri
   obtain ⟨nm,q,k,dev,l,a,b⟩:=r
   replace hmi:(mergeP (L.map ppOf))[i]?=some (nm,dev,l,a,b):=hmi
   simp only at hrl
   repeat' first|refine Kz ?_|intro _
   rename_i b9 b10 b11
   refine Tri.midB (fun e' As'=>∃ d:B6,InB (L.map ppOf) dev d.x0 d.x1 d.y0 d.y1 d.z0 d.z1∧e'=[(3,.slice lp L.length lc),(4,.slice mp M.length mc),(74,.slice mp M.length mc),(75,.int .i64 (M.length:Int)),(76,.int .i64 (i:Int)),(9,.pointer (some ⟨b9,0,none⟩)),(10,.pointer (some ⟨b10,0,none⟩)),(11,.pointer (some ⟨b11,0,none⟩)),(12,.int .i64 ((selG (L.map ppOf) dev).length:Int))]∧As'=.cl b11 [.int .i64 d.x1,.int .i64 d.y1,.int .i64 d.z1] 63::.cl b10 [.int .i64 d.x0,.int .i64 d.y0,.int .i64 d.z0] 63::.cl b9 [.string ⟨nm.toArray⟩,.slice q dev.length k,.int .i64 l,.int .i64 a,.int .i64 b] 65::.ow cPt 65 (.slice mp M.length mc) M::.ft (devPF M)::.ow cPt 65 (.slice lp L.length lc) L::.ft (devPF L)::As) ?_ ?_
   ·refine Tri.loop (ι:=Nat × B6) (fun x=>x.1≤L.length∧InB ((L.map ppOf).take x.1) dev x.2.x0 x.2.x1 x.2.y0 x.2.y1 x.2.z0 x.2.z1) (fun x=>L.length - x.1) (fun x=>[(3,.slice lp L.length lc),(4,.slice mp M.length mc),(74,.slice mp M.length mc),(75,.int .i64 (M.length:Int)),(76,.int .i64 (i:Int)),(9,.pointer (some ⟨b9,0,none⟩)),(10,.pointer (some ⟨b10,0,none⟩)),(11,.pointer (some ⟨b11,0,none⟩)),(12,.int .i64 ((selG ((L.map ppOf).take x.1) dev).length:Int)),(82,.slice lp L.length lc),(83,.int .i64 (L.length:Int)),(84,.int .i64 (x.1:Int))]) (fun x=>.cl b11 [.int .i64 x.2.x1,.int .i64 x.2.y1,.int .i64 x.2.z1] 63::.cl b10 [.int .i64 x.2.x0,.int .i64 x.2.y0,.int .i64 x.2.z0] 63::.cl b9 [.string ⟨nm.toArray⟩,.slice q dev.length k,.int .i64 l,.int .i64 a,.int .i64 b] 65::.ow cPt 65 (.slice mp M.length mc) M::.ft (devPF M)::.ow cPt 65 (.slice lp L.length lc) L::.ft (devPF L)::As) (0,⟨0,0,0,0,0,0⟩) ⟨Nat.zero_le _,fun p hp=>by cases hp⟩ (by show Go.Sx.Sub _ [(3,.slice lp L.length lc),(4,.slice mp M.length mc),(74,.slice mp M.length mc),(75,.int .i64 (M.length:Int)),(76,.int .i64 (i:Int)),(9,.pointer (some ⟨b9,0,none⟩)),(10,.pointer (some ⟨b10,0,none⟩)),(11,.pointer (some ⟨b11,0,none⟩)),(12,.int .i64 ((0:Nat):Int)),(82,.slice lp L.length lc),(83,.int .i64 (L.length:Int)),(84,.int .i64 0)];(exact Zad)) (by show Ents _ (.cl b11 [.int .i64 0,.int .i64 0,.int .i64 0] 63::.cl b10 [.int .i64 0,.int .i64 0,.int .i64 0] 63::.cl b9 [.string ⟨nm.toArray⟩,.slice q dev.length k,.int .i64 l,.int .i64 a,.int .i64 b] 65::.ow cPt 65 (.slice mp M.length mc) M::.ft (devPF M)::.ow cPt 65 (.slice lp L.length lc) L::.ft (devPF L)::As);(exact Zaa)) ?_
    rintro ⟨j,x0,x1,y0,y1,z0,z1⟩ ⟨hj,hIB⟩
    simp only at hj hIB
    show Tri _ _ _ _ [(3,.slice lp L.length lc),(4,.slice mp M.length mc),(74,.slice mp M.length mc),(75,.int .i64 (M.length:Int)),(76,.int .i64 (i:Int)),(9,.pointer (some ⟨b9,0,none⟩)),(10,.pointer (some ⟨b10,0,none⟩)),(11,.pointer (some ⟨b11,0,none⟩)),(12,.int .i64 ((selG ((L.map ppOf).take j) dev).length:Int)),(82,.slice lp L.length lc),(83,.int .i64 (L.length:Int)),(84,.int .i64 (j:Int))] (.cl b11 [.int .i64 x1,.int .i64 y1,.int .i64 z1] 63::.cl b10 [.int .i64 x0,.int .i64 y0,.int .i64 z0] 63::.cl b9 [.string ⟨nm.toArray⟩,.slice q dev.length k,.int .i64 l,.int .i64 a,.int .i64 b] 65::.ow cPt 65 (.slice mp M.length mc) M::.ft (devPF M)::.ow cPt 65 (.slice lp L.length lc) L::.ft (devPF L)::As) _
    repeat' first|refine Kz ?_|intro _
    (refine Kx (fun hc=>?_) fun hc=>?_)
    ·obtain ⟨r,hrj⟩:∃ x,L[j]?=some x:=⟨_,List.getElem?_eq_getElem (by omega)⟩
     have hrl2:=hLf.2 r (List.mem_of_getElem? hrj)
     have hpj:=Zd9 hrj
     obtain ⟨nm2,q2,k2,dev2,l2,a2,b2⟩:=r
     replace hpj:(L.map ppOf)[j]?=some (nm2,dev2,l2,a2,b2):=hpj
     simp only at hrl2
     repeat' first|refine Kz ?_|intro _
     rename_i b14
     haveI i1:=Zay (As:=.cl b14 [.string ⟨nm2.toArray⟩,.slice q2 dev2.length k2,.int .i64 l2,.int .i64 a2,.int .i64 b2] 65::.cl b11 [.int .i64 x1,.int .i64 y1,.int .i64 z1] 63::.cl b10 [.int .i64 x0,.int .i64 y0,.int .i64 z0] 63::.cl b9 [.string ⟨nm.toArray⟩,.slice q dev.length k,.int .i64 l,.int .i64 a,.int .i64 b] 65::.ow cPt 65 (.slice mp M.length mc) M::.ft (devPF M)::.ow cPt 65 (.slice lp L.length lc) L::.ft (devPF L)::As) (L:=L) (by simp) _ (List.mem_of_getElem? hrj)
     haveI i2:=Zay (As:=.cl b14 [.string ⟨nm2.toArray⟩,.slice q2 dev2.length k2,.int .i64 l2,.int .i64 a2,.int .i64 b2] 65::.cl b11 [.int .i64 x1,.int .i64 y1,.int .i64 z1] 63::.cl b10 [.int .i64 x0,.int .i64 y0,.int .i64 z0] 63::.cl b9 [.string ⟨nm.toArray⟩,.slice q dev.length k,.int .i64 l,.int .i64 a,.int .i64 b] 65::.ow cPt 65 (.slice mp M.length mc) M::.ft (devPF M)::.ow cPt 65 (.slice lp L.length lc) L::.ft (devPF L)::As) (L:=M) (by simp) _ (List.mem_of_getElem? hri)
     simp only at i1 i2
     refine Ks rfl (Zka (a:=dev2) (b:=dev) hrl2 hrl) ?_
     have hsn:=Znx (d:=dev) hpj
     by_cases hd:dev2=dev
     ·rw [if_pos hd] at hsn
      have hln:=congrArg List.length hsn
      rw [List.length_append,List.length_singleton] at hln
      have hstep:=fun d:B6=>Z0p (x0':=d.x0) (x1':=d.x1) (y0':=d.y0) (y1':=d.y1) (z0':=d.z0) (z1':=d.z1) hpj hd hIB
      have hmb:(selG ((L.map ppOf).take j) dev).length≤1000000000:=Nat.le_trans (List.length_filter_le ..) (by rw [List.length_take,List.length_map];omega)
      clear hsn hIB i1 i2
      simp only at hstep
      generalize (selG ((L.map ppOf).take j) dev).length=mn at *
      rw [decide_eq_true hd]
      repeat' first|refine Kz ?_|intro _
      refine Tri.midB (fun e' As'=>∃ d:B6,InB ((L.map ppOf).take (j+1)) dev d.x0 d.x1 d.y0 d.y1 d.z0 d.z1∧e'=[(3,.slice lp L.length lc),(4,.slice mp M.length mc),(74,.slice mp M.length mc),(75,.int .i64 (M.length:Int)),(76,.int .i64 (i:Int)),(9,.pointer (some ⟨b9,0,none⟩)),(10,.pointer (some ⟨b10,0,none⟩)),(11,.pointer (some ⟨b11,0,none⟩)),(12,.int .i64 (mn:Int)),(82,.slice lp L.length lc),(83,.int .i64 (L.length:Int)),(84,.int .i64 (j:Int))]∧As'=.cl b11 [.int .i64 d.x1,.int .i64 d.y1,.int .i64 d.z1] 63::.cl b10 [.int .i64 d.x0,.int .i64 d.y0,.int .i64 d.z0] 63::.cl b9 [.string ⟨nm.toArray⟩,.slice q dev.length k,.int .i64 l,.int .i64 a,.int .i64 b] 65::.ow cPt 65 (.slice mp M.length mc) M::.ft (devPF M)::.ow cPt 65 (.slice lp L.length lc) L::.ft (devPF L)::As) ?_ ?_
      ·by_cases hz:mn=0
       all_goals
        refine Zf1 4 ?_
        repeat' first|refine Kz ?_|intro _
        refine Zck [] [(4,.c b10),(9,.c b11)] (.take 0 (.take 1 (.take 2 (.take 3 (.take 4 (.take 5 (.take 6 (.take 7 (.take 8 (.take 9 (.take 10 (.take 11 (.take 12 (.all [(13,.take 14 (.all [(15,.done)]))])))))))))))))) ?_
        repeat' first|refine Kf ?_|intro _|constructor
        refine Zck [] [(4,.c b10),(9,.c b11)] (.take 0 (.take 1 (.take 2 (.take 3 (.take 4 (.take 5 (.take 6 (.take 7 (.take 8 (.take 9 (.take 10 (.take 11 (.take 12 (.all [(13,.take 14 (.all [(15,.done)]))])))))))))))))) ?_
        repeat' first|refine Kf ?_|intro _|constructor
        refine Zck [] [(4,.c b10),(9,.c b11)] (.take 0 (.take 1 (.take 2 (.take 3 (.take 4 (.take 5 (.take 6 (.take 7 (.take 8 (.take 9 (.take 10 (.take 11 (.take 12 (.all [(13,.take 14 (.all [(15,.done)]))])))))))))))))) ?_
        repeat' first|refine Kf ?_|intro _|constructor
       ·subst hz
        refine Post.cut _ _ ⟨⟨if l2 < l2 then l2 else l2,if l2 < l2 then l2 else l2,if a2 < a2 then a2 else a2,if a2 < a2 then a2 else a2,if b2 < b2 then b2 else b2,if b2 < b2 then b2 else b2⟩,hstep _ (fun h=>absurd rfl h) ?_,rfl,rfl⟩ Zad Zaa
        simp only;refine ⟨⟨?_,?_⟩,⟨?_,?_⟩,?_,?_⟩<;>split<;>omega
       ·refine Post.cut _ _ ⟨⟨if l2 < x0 then l2 else x0,if x1 < l2 then l2 else x1,if a2 < y0 then a2 else y0,if y1 < a2 then a2 else y1,if b2 < z0 then b2 else z0,if z1 < b2 then b2 else z1⟩,hstep _ ?_ ?_,rfl,rfl⟩ Zad Zaa
        ·simp only;intro _;refine ⟨⟨?_,?_⟩,⟨?_,?_⟩,?_,?_⟩<;>split<;>omega
        ·simp only;refine ⟨⟨?_,?_⟩,⟨?_,?_⟩,?_,?_⟩<;>split<;>omega
      rintro _ _ ⟨d,hd2,rfl,rfl⟩
      repeat' first|refine Kz ?_|intro _
      exact Post.round (j+1,d) ⟨by show j+1≤L.length;omega,hd2⟩ (by show L.length - (j+1) < L.length - j;omega) (by show Go.Sx.Sub _ [(3,.slice lp L.length lc),(4,.slice mp M.length mc),(74,.slice mp M.length mc),(75,.int .i64 (M.length:Int)),(76,.int .i64 (i:Int)),(9,.pointer (some ⟨b9,0,none⟩)),(10,.pointer (some ⟨b10,0,none⟩)),(11,.pointer (some ⟨b11,0,none⟩)),(12,.int .i64 ((selG ((L.map ppOf).take (j+1)) dev).length:Int)),(82,.slice lp L.length lc),(83,.int .i64 (L.length:Int)),(84,.int .i64 ((j+1:Nat):Int))];rw [hln];(exact Zad)) (by show Ents _ (.cl b11 [.int .i64 d.x1,.int .i64 d.y1,.int .i64 d.z1] 63::.cl b10 [.int .i64 d.x0,.int .i64 d.y0,.int .i64 d.z0] 63::.cl b9 [.string ⟨nm.toArray⟩,.slice q dev.length k,.int .i64 l,.int .i64 a,.int .i64 b] 65::.ow cPt 65 (.slice mp M.length mc) M::.ft (devPF M)::.ow cPt 65 (.slice lp L.length lc) L::.ft (devPF L)::As);(exact Zaa))
     ·rw [if_neg hd] at hsn
      rw [decide_eq_false hd]
      repeat' first|refine Kz ?_|intro _
      exact Post.round (j+1,⟨x0,x1,y0,y1,z0,z1⟩) ⟨by show j+1≤L.length;omega,by show InB ((L.map ppOf).take (j+1)) dev x0 x1 y0 y1 z0 z1;unfold InB;rw [hsn];exact hIB⟩ (by show L.length - (j+1) < L.length - j;omega) (by show Go.Sx.Sub _ [(3,.slice lp L.length lc),(4,.slice mp M.length mc),(74,.slice mp M.length mc),(75,.int .i64 (M.length:Int)),(76,.int .i64 (i:Int)),(9,.pointer (some ⟨b9,0,none⟩)),(10,.pointer (some ⟨b10,0,none⟩)),(11,.pointer (some ⟨b11,0,none⟩)),(12,.int .i64 ((selG ((L.map ppOf).take (j+1)) dev).length:Int)),(82,.slice lp L.length lc),(83,.int .i64 (L.length:Int)),(84,.int .i64 ((j+1:Nat):Int))];rw [hsn];(exact Zad)) (by show Ents _ (.cl b11 [.int .i64 x1,.int .i64 y1,.int .i64 z1] 63::.cl b10 [.int .i64 x0,.int .i64 y0,.int .i64 z0] 63::.cl b9 [.string ⟨nm.toArray⟩,.slice q dev.length k,.int .i64 l,.int .i64 a,.int .i64 b] 65::.ow cPt 65 (.slice mp M.length mc) M::.ft (devPF M)::.ow cPt 65 (.slice lp L.length lc) L::.ft (devPF L)::As);(exact Zaa))
    ·have hjL:j=L.length:=by omega
     subst hjL
     have e9:(L.map ppOf).take L.length=L.map ppOf:=List.take_of_length_le (by rw [List.length_map];exact Nat.le_refl _)
     rw [e9] at hIB
     repeat' first|refine Kz ?_|intro _
     exact Post.cut _ _ ⟨⟨x0,x1,y0,y1,z0,z1⟩,hIB,rfl,rfl⟩ (by rw [e9];(exact Zad)) Zaa
   rintro _ _ ⟨⟨x0,x1,y0,y1,z0,z1⟩,hIB,rfl,rfl⟩
   simp only at hIB ⊢
   obtain ⟨m1,⟨m2,m3⟩,⟨m4,m5⟩,m6,m7⟩:=Zv3 hmi hIB
   simp only at m1 m2 m3 m4 m5 m6 m7
   clear hIB hmi
   generalize (selG (L.map ppOf) dev).length=mn at *
   repeat' first|refine Kz ?_|intro _
   refine Zf1 4 ?_
   repeat' first|refine Kz ?_|intro _
   exact Post.round (i+1) (by show i+1≤M.length;omega) (by omega) Zad Zaa
  ·repeat' first|refine Kz ?_|intro _
   exact Post.cut _ _ ⟨rfl,rfl⟩ Zad Zaa
 rintro _ _ ⟨rfl,rfl⟩
 repeat' first|refine Kz ?_|intro _
 refine Tri.ents Ents.freeze ?_
 refine Tri.midB (fun e' As'=>e'=[]∧As'=As) ?_ ?_
 ·refine Tri.loop (ι:=Nat) (fun i=>i≤M.length) (fun i=>M.length - i) (fun i=>[(4,.slice mp M.length mc),(150,.slice mp M.length mc),(151,.int .i64 (M.length:Int)),(152,.int .i64 (i:Int))]) (fun _=>.ft (rd cPt (.slice mp M.length mc) M)::.ft (devPF M)::As) 0 (Nat.zero_le _) Zad Zaa ?_
  intro i hi
  repeat' first|refine Kz ?_|intro _
  (refine Kx (fun hc=>?_) fun hc=>?_)
  ·obtain ⟨r,hri⟩:∃ x,M[i]?=some x:=⟨_,List.getElem?_eq_getElem (by omega)⟩
   have hrl:=hMf.2 r (List.mem_of_getElem? hri)
   have hdf:=fun t r1 h=>hkey t i r1 r h
   obtain ⟨nm,q,k,dev,l,a,b⟩:=r
   simp only at hrl
   haveI rdl:∀ Bs [RdIn Bs (.slice mp M.length mc) RawP cPt M],RdIn Bs (.slice mp i mc) RawP cPt (M.take i):=fun Bs i1=>RdIn.take (h:=i1) hi
   have hti:(M.take i).length=i:=by rw [List.length_take];omega
   repeat' first|refine Kz ?_|intro _
   rename_i b20
   rw [Ztd,Nat.sub_zero,List.drop_zero,hti]
   refine Tri.midB (fun e' As'=>e'=[(4,.slice mp M.length mc),(150,.slice mp M.length mc),(151,.int .i64 (M.length:Int)),(152,.int .i64 (i:Int))]∧As'=.ft (rd cPt (.slice mp M.length mc) M)::.ft (devPF M)::As) ?_ ?_
   ·refine Tri.loop (ι:=Nat) (fun t=>t≤i) (fun t=>i - t) (fun t=>[(4,.slice mp M.length mc),(150,.slice mp M.length mc),(151,.int .i64 (M.length:Int)),(152,.int .i64 (i:Int)),(20,.pointer (some ⟨b20,0,none⟩)),(159,.slice mp i mc),(160,.int .i64 (i:Int)),(161,.int .i64 (t:Int))]) (fun _=>.cl b20 [.string ⟨nm.toArray⟩,.slice q dev.length k,.int .i64 l,.int .i64 a,.int .i64 b] 65::.ft (rd cPt (.slice mp M.length mc) M)::.ft (devPF M)::As) 0 (Nat.zero_le _) Zad Zaa ?_
    intro t hT
    repeat' first|refine Kz ?_|intro _
    (refine Kx (fun hc=>?_) fun hc=>?_)
    ·obtain ⟨r,hrt⟩:∃ x,M[t]?=some x:=⟨_,List.getElem?_eq_getElem (by omega)⟩
     have hrl2:=hMf.2 r (List.mem_of_getElem? hrt)
     have hne:=hdf t r (by omega) hrt hri
     have hrt2:(M.take i)[t]?=some r:=by rw [List.getElem?_take,if_pos (by omega)];exact hrt
     obtain ⟨nm2,q2,k2,dev2,l2,a2,b2⟩:=r
     simp only at hrl2 hne
     repeat' first|refine Kz ?_|intro _
     rename_i b22
     haveI i1:=Zay (As:=.cl b22 [.string ⟨nm2.toArray⟩,.slice q2 dev2.length k2,.int .i64 l2,.int .i64 a2,.int .i64 b2] 65::.cl b20 [.string ⟨nm.toArray⟩,.slice q dev.length k,.int .i64 l,.int .i64 a,.int .i64 b] 65::.ft (rd cPt (.slice mp M.length mc) M)::.ft (devPF M)::As) (L:=M) (by simp) _ (List.mem_of_getElem? hrt)
     haveI i2:=Zay (As:=.cl b22 [.string ⟨nm2.toArray⟩,.slice q2 dev2.length k2,.int .i64 l2,.int .i64 a2,.int .i64 b2] 65::.cl b20 [.string ⟨nm.toArray⟩,.slice q dev.length k,.int .i64 l,.int .i64 a,.int .i64 b] 65::.ft (rd cPt (.slice mp M.length mc) M)::.ft (devPF M)::As) (L:=M) (by simp) _ (List.mem_of_getElem? hri)
     simp only at i1 i2
     refine Ks rfl (Zka (a:=dev2) (b:=dev) hrl2 hrl) ?_
     rw [decide_eq_false hne]
     repeat' first|refine Kz ?_|intro _
     exact Post.round (t+1) (by show t+1≤i;omega) (by omega) Zad Zaa
    ·repeat' first|refine Kz ?_|intro _
     exact Post.cut _ _ ⟨rfl,rfl⟩ Zad Zaa
   rintro _ _ ⟨rfl,rfl⟩
   repeat' first|refine Kz ?_|intro _
   exact Post.round (i+1) (by show i+1≤M.length;omega) (by omega) Zad Zaa
  ·repeat' first|refine Kz ?_|intro _
   exact Post.cut _ _ ⟨rfl,rfl⟩ Zad Zaa
 rintro _ _ ⟨rfl,rfl⟩
 repeat' first|refine Kz ?_|intro _
 (refine Zac ?_)
 exact ⟨_,rfl,Ents.refl _⟩
end Go.Proofs.YtciadfpomkdlnaaGreatDoor.Q

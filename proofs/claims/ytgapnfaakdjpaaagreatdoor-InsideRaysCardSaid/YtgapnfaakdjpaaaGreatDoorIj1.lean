/- Walks: the law's helpers on points and meshes. -/
import Derived.Test.YtgapnfaakdjpaaaGreatDoorIxa
import Derived.Test.YtgapnfaakdjpaaaGreatDoorPl
import Derived.Test.YtgapnfaakdjpaaaGreatDoorCd1
import Derived.Test.YtgapnfaakdjpaaaGreatDoorSxS
namespace Go.Sx
open Go
theorem qI_mk (n d:Int):mkRat (if d < 0 then -n else n) d.natAbs=qI n d:=rfl
end Go.Sx
namespace Go.Proofs.YtgapnfaakdjpaaaGreatDoor
open Go Go.Sx
variable {w0:World} {As:List Ent} {pv fv:Value} {pts fcs:List V3}
instance:TwoS Tryz.prog 49:=⟨⟨_,_,_,_,(inferInstance:UL Tryz.prog 49 _).h,by decide,by decide,rfl,rfl,rfl,rfl,(inferInstance:UL Tryz.prog 47 .string).h,(inferInstance:UL Tryz.prog 47 .string).h⟩,by kernel_rfl,by kernel_rfl⟩
theorem quickS_ok {x y:Int} (hx:-9223372036854775808≤x∧x≤9223372036854775807) (hy:-9223372036854775808≤y∧y≤9223372036854775807) (h0:y≠0) :
    CallsS Tryz.prog w0 56 [.int .i64 x,.int .i64 y] As (Q.RatP As (qI x y)):=by
  have lx:(qud x.natAbs).length≤5:=qud_len_lt (by omega)
  have ly:(qud y.natAbs).length≤5:=qud_len_lt (by omega)
  refine CallsS.of_tri Tryz.func56 rfl Tryz.ntmps56 rfl ?_
  (repeat' first|(refine Ka ?_;first|refine Kb ?_|(refine Kc ?_;intro _))|refine Kd ?_|refine Kh ?_)
  refine TL.call rfl rfl rfl (integerR_ok (n:=x) hx.1 hx.2) ?_
  rintro _ _ ⟨p1,c1,rfl,rfl⟩
  (repeat' first|(refine Ka ?_;first|refine Kb ?_|(refine Kc ?_;intro _))|refine Kd ?_|refine Kh ?_)
  refine TL.call rfl rfl rfl (integerR_ok (n:=y) hy.1 hy.2) ?_
  rintro _ _ ⟨p2,c2,rfl,rfl⟩
  (repeat' first|(refine Ka ?_;first|refine Kb ?_|(refine Kc ?_;intro _))|refine Kd ?_|refine Kh ?_)
  refine TL.callv rfl rfl rfl rfl (Q.lowest_ok (v:=.slice p1 (qud x.natAbs).length c1) (o:=.slice p2 (qud y.natAbs).length c2) (x:=x) (y:=y) h0 (by omega) (by omega)) ?_
  rw [qI_mk]
  rintro _ _ ⟨p3,c3,p4,c4,rfl,rfl⟩
  (repeat' first|(refine Ka ?_;first|refine Kb ?_|(refine Kc ?_;intro _))|refine Kd ?_|refine Kh ?_)
  (refine Post.ra ?_)
  exact ⟨_,⟨p3,c3,p4,c4,rfl,rfl⟩,by (exact Ents.au)⟩
theorem ofRef_ok {n d:Int} (hn:-9223372036854775807≤n∧n≤9223372036854775807) (hd:-9223372036854775807≤d∧d≤9223372036854775807) (h0:d≠0) :
    CallsS Tryz.prog w0 25 [.int .i64 n,.int .i64 d] As fun u Bs=>u=.tuple #[.agg #[.string ⟨(tN (qI n d)).toArray⟩,.string ⟨(tD (qI n d)).toArray⟩],.int .i64 0]∧Bs=As:=by
  have fq:=(fit_qI hn hd h0)
  have fq6:Fit 600 (qI n d):=fq.mono (by decide)
  obtain ⟨l1,l2⟩:=fq.qud
  have hot:=fq6.ot
  refine CallsS.of_tri Tryz.func25 rfl Tryz.ntmps25 rfl ?_
  (repeat' first|(refine Ka ?_;first|refine Kb ?_|(refine Kc ?_;intro _))|refine Kd ?_|refine Kh ?_)
  refine TL.callv rfl rfl rfl rfl (quickS_ok (x:=n) (y:=d) (by omega) (by omega) h0) ?_
  generalize qI n d=r at l1 l2 hot ⊢
  rintro _ _ ⟨p1,c1,p2,c2,rfl,rfl⟩
  have l3:(qud (r.den:Int).natAbs).length≤19:=by rw [Int.natAbs_natCast];exact l2
  (repeat' first|(refine Ka ?_;first|refine Kb ?_|(refine Kc ?_;intro _))|refine Kd ?_|refine Kh ?_)
  refine TL.callv rfl rfl rfl rfl (Q.outP_ok (v:=.slice p1 (qud r.num.natAbs).length c1) (o:=.slice p2 (qud (r.den:Int).natAbs).length c2) (r:=r) (by omega) (by omega)) ?_
  rw [hot]
  rintro _ _ ⟨rfl,rfl⟩
  (repeat' first|(refine Ka ?_;first|refine Kb ?_|(refine Kc ?_;intro _))|refine Kd ?_|refine Kh ?_)
  (refine Post.ra ?_)
  exact ⟨_,⟨rfl,rfl⟩,by (exact Ents.au)⟩
theorem tetra36_ok:CallsS Tryz.prog w0 20 [] As fun v Bs=>∃ b1 b2,v=.agg #[.slice (some ⟨b1,0,none⟩) 4 4,.slice (some ⟨b2,0,none⟩) 4 4] ∧
    Bs=.ow cV3 31 (.slice (some ⟨b1,0,none⟩) 4 4) tetP::.ow cV3 31 (.slice (some ⟨b2,0,none⟩) 4 4) tetF::As:=by
  refine CallsS.of_tri Tryz.func20 rfl Tryz.ntmps20 rfl ?_
  (repeat' first|(refine Ka ?_;first|refine Kb ?_|(refine Kc ?_;intro _))|refine Kd ?_|refine Kh ?_)
  rename_i b0 b1 b2
  (refine Post.ra ?_)
  refine ⟨_,⟨b1,b2,rfl,rfl⟩,?_⟩
  refine Ents.trans Ents.drop1 ?_
  refine Ents.trans (Ents.clW (n:=4) (cap:=4) cV3 tetF rfl rfl rfl) ?_
  refine Ents.trans (Ents.perm (List.Perm.swap _ _ _)) ?_
  refine Ents.trans (Ents.clW (n:=4) (cap:=4) cV3 tetP rfl rfl rfl) ?_
  (exact Ents.au)
theorem turned36_ok [RdIn As fv V3 cV3 fcs] [RdIn As pv V3 cV3 pts] (hl:fcs.length≤1000000) :
    CallsS Tryz.prog w0 24 [.agg #[pv,fv]] As fun v Bs=>∃ q c,v=.agg #[pv,.slice q fcs.length c]∧Bs=.ow cV3 31 (.slice q fcs.length c) (fcs.map swapF)::As:=by
  refine CallsS.rdSl pv fun p0 c0 e0=>CallsS.rdSl fv fun p1 c1 e1=>?_
  subst e0 e1
  refine CallsS.of_tri Tryz.func24 rfl Tryz.ntmps24 rfl ?_
  (repeat' first|(refine Ka ?_;first|refine Kb ?_|(refine Kc ?_;intro _))|refine Kd ?_|refine Kh ?_)
  rename_i b1 b2
  refine TL.f rfl rfl (ExF.build (vs:=[.slice p0 pts.length c0]) (l:=[.slice p0 pts.length c0,.slice none 0 0]) rfl (fun w=>by kernel_rfl)) ?_
  (repeat' first|(refine Ka ?_;first|refine Kb ?_|(refine Kc ?_;intro _))|refine Kd ?_|refine Kh ?_)
  rename_i b3
  refine Tri.ents (Ents.nilW (T:=31) cV3) ?_
  refine Tri.loop (ι:=Nat × Option Addr × Nat) (fun s=>s.1≤fcs.length) (fun s=>fcs.length - s.1)
    (fun s=>[(2,.pointer (some ⟨b2,0,none⟩)),(3,.pointer (some ⟨b3,0,none⟩)),(10,.slice p1 fcs.length c1),(11,.int .i64 fcs.length),(12,.int .i64 (s.1:Int))])
    (fun s=>.ow cV3 31 (.slice s.2.1 s.1 s.2.2) ((fcs.take s.1).map swapF)::.cl b3 [.slice p0 pts.length c0,.slice s.2.1 s.1 s.2.2] 34::.cl b2 [.slice none 0 0,.slice none 0 0] 34::As) (0,none,0) (by simp) (by (exact Sub.au)) (by simp only [List.take_zero,List.map_nil];(exact Ents.au)) ?_
  rintro ⟨k,p2,c2⟩ hkl
  simp only at hkl
  have hlen:((fcs.take k).map swapF).length=k:=by simp;omega
  generalize hxs:(fcs.take k).map swapF=xs at hlen ⊢
  show Tri _ _ _ _ [(2,_),(3,_),(10,_),(11,_),(12,.int .i64 (k:Int))] (.ow cV3 31 (.slice p2 k c2) xs::.cl b3 [.slice p0 pts.length c0,.slice p2 k c2] 34::_) _
  (repeat' first|(refine Ka ?_;first|refine Kb ?_|(refine Kc ?_;intro _))|refine Kd ?_|refine Kh ?_)
  ((show Tri _ _ _ (.cond _ _ _) _ _ _;first|refine Tri.condP rfl (fun hc=>?_) (fun hc=>?_)|refine Tri.condN rfl (fun hc=>?_) (fun hc=>?_)))
  · obtain ⟨f,hp⟩:∃ p,fcs[k]?=some p:=⟨_,List.getElem?_eq_getElem (by omega)⟩
    (repeat' first|(refine Ka ?_;first|refine Kb ?_|(refine Kc ?_;intro _))|refine Kd ?_|refine Kh ?_)
    rename_i b5 bs v8
    refine Post.rdSl (As:=.cl b3 [.slice p0 pts.length c0,v8] 34::.ow cV3 31 v8 (xs++[⟨f.x,f.z,f.y⟩])::.cl b5 [.int .i64 f.x,.int .i64 f.y,.int .i64 f.z] 31::.cl b2 [.slice none 0 0,.slice none 0 0] 34::As) v8 ?_
    rintro p8 c8 hv8
    have el:(xs++[(⟨f.x,f.z,f.y⟩:V3)]).length=k+1:=by simp [hlen]
    rw [el] at hv8
    subst hv8
    refine Post.round (k+1,p8,c8) (by simp only;omega) (by simp only;omega) (by (exact Sub.au)) ?_
    show Ents _ (.ow cV3 _ (.slice p8 (k+1) c8) ((fcs.take (k+1)).map swapF)::.cl b3 [.slice p0 pts.length c0,.slice p8 (k+1) c8] _::_)
    rw [show (fcs.take (k+1)).map swapF=(fcs.take k).map swapF++[swapF f] by rw [List.take_add_one,hp,List.map_append];rfl,hxs,show swapF f=⟨f.x,f.z,f.y⟩ from rfl]
    (exact Ents.au)
  · (repeat' first|(refine Ka ?_;first|refine Kb ?_|(refine Kc ?_;intro _))|refine Kd ?_|refine Kh ?_)
    (refine Post.ra ?_)
    have hk':k=fcs.length:=by omega
    subst hk'
    rw [List.take_length] at hxs
    subst hxs
    exact ⟨_,⟨p2,c2,rfl,rfl⟩,by (exact Ents.au)⟩
theorem lies36_ok (ht:Tab w0) {p:V3} {n:Int} [RdIn As fv V3 cV3 fcs] [RdIn As pv V3 cV3 pts] :
    CallsS Tryz.prog w0 23 [.agg #[pv,fv],p.val,.int .i64 n] As fun u Bs=>u=.bool (decide (sideW pts fcs p=(n,0)))∧Bs=As:=by
  refine CallsS.of_tri Tryz.func23 rfl Tryz.ntmps23 rfl ?_
  show Tri _ _ _ _ (env0 0 [.agg #[pv,fv],.agg #[.int .i64 p.x,.int .i64 p.y,.int .i64 p.z],.int .i64 n]) _ _
  (repeat' first|(refine Ka ?_;first|refine Kb ?_|(refine Kc ?_;intro _))|refine Kd ?_|refine Kh ?_)
  refine TL.callv rfl rfl rfl rfl (side_ok ht (pv:=pv) (fv:=fv) (pts:=pts) (fcs:=fcs) (p:=p)) ?_
  rintro _ _ ⟨rfl,rfl⟩
  generalize sideW pts fcs p=o
  obtain ⟨o1,o2⟩:=o
  by_cases h1:o1=n
  · by_cases h2:o2=0
    · subst h1 h2
      rw [decide_eq_true rfl]
      (repeat' first|(refine Ka ?_;first|refine Kb ?_|(refine Kc ?_;intro _))|refine Kd ?_|refine Kh ?_)
      (refine Post.ra ?_)
      refine ⟨_,⟨?_,rfl⟩,by (exact Ents.au)⟩
      simp
    · rw [decide_eq_false (fun h=>h2 (congrArg Prod.snd h))]
      (repeat' first|(refine Ka ?_;first|refine Kb ?_|(refine Kc ?_;intro _))|refine Kd ?_|refine Kh ?_)
      (refine Post.ra ?_)
      refine ⟨_,⟨?_,rfl⟩,by (exact Ents.au)⟩
      simp [h2]
  · rw [decide_eq_false (fun h=>h1 (congrArg Prod.fst h))]
    (repeat' first|(refine Ka ?_;first|refine Kb ?_|(refine Kc ?_;intro _))|refine Kd ?_|refine Kh ?_)
    (refine Post.ra ?_)
    refine ⟨_,⟨?_,rfl⟩,by (exact Ents.au)⟩
    simp
theorem crosses36_ok (ht:Tab w0) {p q:V3} {y:Bool} {n d:Int} {k:Nat} [RdIn As fv V3 cV3 fcs] [RdIn As pv V3 cV3 pts] (hn:-9223372036854775807≤n∧n≤9223372036854775807) (hd:-9223372036854775807≤d∧d≤9223372036854775807) (h0:d≠0) (h:rayW pts fcs p q y=.inr (qI n d,k)) :
    CallsS Tryz.prog w0 27 [.agg #[pv,fv],p.val,q.val,.bool y,.int .i64 n,.int .i64 d,.int .i64 (k:Int)] As fun u Bs=>u=.bool true∧Bs=As:=by
  refine CallsS.of_tri Tryz.func27 rfl Tryz.ntmps27 rfl ?_
  show Tri _ _ _ _ (env0 0 [.agg #[pv,fv],.agg #[.int .i64 p.x,.int .i64 p.y,.int .i64 p.z],.agg #[.int .i64 q.x,.int .i64 q.y,.int .i64 q.z],.bool y,.int .i64 n,.int .i64 d,.int .i64 (k:Int)]) _ _
  (repeat' first|(refine Ka ?_;first|refine Kb ?_|(refine Kc ?_;intro _))|refine Kd ?_|refine Kh ?_)
  refine TL.callv rfl rfl rfl rfl (ray_ok ht (pv:=pv) (fv:=fv) (pts:=pts) (fcs:=fcs) (p:=p) (q:=q) (y:=y)) ?_
  rw [h]
  rintro _ _ ⟨rfl,rfl⟩
  show TL _ _ _ _ _ ((_,.tuple #[.agg #[.string ⟨(tN (qI n d)).toArray⟩,.string ⟨(tD (qI n d)).toArray⟩],.int .i64 (k:Int),.int .i64 0])::_) _ _
  (repeat' first|(refine Ka ?_;first|refine Kb ?_|(refine Kc ?_;intro _))|refine Kd ?_|refine Kh ?_)
  refine TL.callv rfl rfl rfl rfl (ofRef_ok hn hd h0) ?_
  rintro _ _ ⟨rfl,rfl⟩
  generalize qI n d=r
  have q1:tN r=tN r∧tD r=tD r:=⟨rfl,rfl⟩
  (repeat' first|(refine Ka ?_;first|refine Kb ?_|(refine Kc ?_;intro _))|refine Kd ?_|refine Kh ?_)
  refine TL.f rfl rfl (ExF.eqlFr rfl rfl) ?_
  (repeat' first|(refine Ka ?_;first|refine Kb ?_|(refine Kc ?_;intro _))|refine Kd ?_|refine Kh ?_)
  (refine Post.ra ?_)
  exact ⟨_,⟨rfl,rfl⟩,by (exact Ents.au)⟩
/-! the chapter's examples -/
theorem ex_wnd1:wndW tetP tetF ⟨100,100,100⟩=(1,0):=by decide +kernel
theorem ex_wnd2:wndW tetP (tetF.map swapF) ⟨100,100,100⟩=(-1,0):=by decide +kernel
theorem ex_wnd3:wndW tetP tetF ⟨0,0,0⟩=(0,8):=by decide +kernel
theorem ex_ray1:rayW tetP tetF ⟨100,100,100⟩ ⟨100,100,101⟩ false=.inl 4:=by decide +kernel
theorem ex_ray2:rayW tetP tetF ⟨5,5,5⟩ ⟨5,5,5⟩ true=.inl 2:=by decide +kernel
theorem ex_side1:sideW tetP tetF ⟨100,100,100⟩=(2,0):=by decide +kernel
theorem ex_side2:sideW tetP tetF ⟨500,500,0⟩=(1,0):=by decide +kernel
theorem ex_side3:sideW tetP tetF ⟨500,500,1⟩=(0,0):=by decide +kernel
theorem ex_side4:sideW tetP tetF ⟨-1,0,0⟩=(0,0):=by decide +kernel
theorem ex_cr1:rayW tetP tetF ⟨100,100,100⟩ ⟨100,100,101⟩ true=.inr (qI 700 1,3):=by decide +kernel
theorem ex_cr2:rayW tetP tetF ⟨-100,50,50⟩ ⟨100,50,50⟩ false=.inr (qI 1 2,2):=by decide +kernel
theorem ex_cr3:rayW tetP tetF ⟨-100,0,0⟩ ⟨100,0,0⟩ false=.inr (qI 1 2,0):=by decide +kernel
theorem ex_cr4:rayW tetP tetF ⟨100,0,0⟩ ⟨-100,0,0⟩ false=.inr (qI 0 1,0):=by decide +kernel
theorem lies36T_ok (ht:Tab w0) {p:V3} {n:Int} [RdIn As fv V3 cV3 fcs] [RdIn As pv V3 cV3 pts] (h:sideW pts fcs p=(n,0)) :
    CallsS Tryz.prog w0 23 [.agg #[pv,fv],p.val,.int .i64 n] As fun u Bs=>u=.bool true∧Bs=As:=by
  have k:=lies36_ok (w0:=w0) (As:=As) ht (pv:=pv) (fv:=fv) (pts:=pts) (fcs:=fcs) (p:=p) (n:=n)
  rw [decide_eq_true h] at k
  exact k
set_option maxRecDepth 100000 in
set_option maxHeartbeats 4000000 in
theorem works36_ok (ht:Tab w0):CallsS Tryz.prog w0 17 [] As fun u Bs=>u=.bool true∧Bs=As:=by
  refine CallsS.of_tri Tryz.func17 rfl Tryz.ntmps17 rfl ?_
  (repeat' first|(refine Ka ?_;first|refine Kb ?_|(refine Kc ?_;intro _))|refine Kd ?_|refine Kh ?_)
  refine TL.call rfl rfl rfl tetra36_ok ?_
  rintro _ _ ⟨b1,b2,rfl,rfl⟩
  (repeat' first|(refine Ka ?_;first|refine Kb ?_|(refine Kc ?_;intro _))|refine Kd ?_|refine Kh ?_)
  refine TL.callv rfl rfl rfl rfl (winding_ok ht (pv:=.slice (some ⟨b1,0,none⟩) 4 4) (fv:=.slice (some ⟨b2,0,none⟩) 4 4) (pts:=tetP) (fcs:=tetF) (p:=⟨100,100,100⟩)) ?_
  rw [ex_wnd1]
  rintro _ _ ⟨rfl,rfl⟩
  (repeat' first|(refine Ka ?_;first|refine Kb ?_|(refine Kc ?_;intro _))|refine Kd ?_|refine Kh ?_)
  refine TL.call rfl rfl rfl (turned36_ok (pts:=tetP) (fcs:=tetF) (by decide)) ?_
  rintro _ _ ⟨q,c,rfl,rfl⟩
  (repeat' first|(refine Ka ?_;first|refine Kb ?_|(refine Kc ?_;intro _))|refine Kd ?_|refine Kh ?_)
  refine TL.callv rfl rfl rfl rfl (winding_ok ht (pv:=.slice (some ⟨b1,0,none⟩) 4 4) (fv:=.slice q tetF.length c) (pts:=tetP) (fcs:=tetF.map swapF) (p:=⟨100,100,100⟩)) ?_
  rw [ex_wnd2]
  rintro _ _ ⟨rfl,rfl⟩
  (repeat' first|(refine Ka ?_;first|refine Kb ?_|(refine Kc ?_;intro _))|refine Kd ?_|refine Kh ?_)
  refine TL.callv rfl rfl rfl rfl (winding_ok ht (pv:=.slice (some ⟨b1,0,none⟩) 4 4) (fv:=.slice (some ⟨b2,0,none⟩) 4 4) (pts:=tetP) (fcs:=tetF) (p:=⟨0,0,0⟩)) ?_
  rw [ex_wnd3]
  rintro _ _ ⟨rfl,rfl⟩
  (repeat' first|(refine Ka ?_;first|refine Kb ?_|(refine Kc ?_;intro _))|refine Kd ?_|refine Kh ?_)
  refine TL.callv rfl rfl rfl rfl (ray_ok ht (pv:=.slice (some ⟨b1,0,none⟩) 4 4) (fv:=.slice (some ⟨b2,0,none⟩) 4 4) (pts:=tetP) (fcs:=tetF) (p:=⟨100,100,100⟩) (q:=⟨100,100,101⟩) (y:=false)) ?_
  rw [ex_ray1]
  rintro _ _ ⟨rfl,rfl⟩
  show TL _ _ _ _ _ ((_,.tuple #[.agg #[.string ⟨#[]⟩,.string ⟨#[]⟩],.int .i64 0,.int .i64 4])::_) _ _
  (repeat' first|(refine Ka ?_;first|refine Kb ?_|(refine Kc ?_;intro _))|refine Kd ?_|refine Kh ?_)
  refine TL.callv rfl rfl rfl rfl (ray_ok ht (pv:=.slice (some ⟨b1,0,none⟩) 4 4) (fv:=.slice (some ⟨b2,0,none⟩) 4 4) (pts:=tetP) (fcs:=tetF) (p:=⟨5,5,5⟩) (q:=⟨5,5,5⟩) (y:=true)) ?_
  rw [ex_ray2]
  rintro _ _ ⟨rfl,rfl⟩
  show TL _ _ _ _ _ ((_,.tuple #[.agg #[.string ⟨#[]⟩,.string ⟨#[]⟩],.int .i64 0,.int .i64 2])::_) _ _
  (repeat' first|(refine Ka ?_;first|refine Kb ?_|(refine Kc ?_;intro _))|refine Kd ?_|refine Kh ?_)
  refine TL.callv rfl rfl rfl rfl (lies36T_ok ht (pv:=.slice (some ⟨b1,0,none⟩) 4 4) (fv:=.slice (some ⟨b2,0,none⟩) 4 4) (pts:=tetP) (fcs:=tetF) (p:=⟨100,100,100⟩) (n:=2) ex_side1) ?_
  rintro _ _ ⟨rfl,rfl⟩
  (repeat' first|(refine Ka ?_;first|refine Kb ?_|(refine Kc ?_;intro _))|refine Kd ?_|refine Kh ?_)
  refine TL.callv rfl rfl rfl rfl (lies36T_ok ht (pv:=.slice (some ⟨b1,0,none⟩) 4 4) (fv:=.slice (some ⟨b2,0,none⟩) 4 4) (pts:=tetP) (fcs:=tetF) (p:=⟨500,500,0⟩) (n:=1) ex_side2) ?_
  rintro _ _ ⟨rfl,rfl⟩
  (repeat' first|(refine Ka ?_;first|refine Kb ?_|(refine Kc ?_;intro _))|refine Kd ?_|refine Kh ?_)
  refine TL.callv rfl rfl rfl rfl (lies36T_ok ht (pv:=.slice (some ⟨b1,0,none⟩) 4 4) (fv:=.slice (some ⟨b2,0,none⟩) 4 4) (pts:=tetP) (fcs:=tetF) (p:=⟨500,500,1⟩) (n:=0) ex_side3) ?_
  rintro _ _ ⟨rfl,rfl⟩
  (repeat' first|(refine Ka ?_;first|refine Kb ?_|(refine Kc ?_;intro _))|refine Kd ?_|refine Kh ?_)
  refine TL.callv rfl rfl rfl rfl (lies36T_ok ht (pv:=.slice (some ⟨b1,0,none⟩) 4 4) (fv:=.slice (some ⟨b2,0,none⟩) 4 4) (pts:=tetP) (fcs:=tetF) (p:=⟨-1,0,0⟩) (n:=0) ex_side4) ?_
  rintro _ _ ⟨rfl,rfl⟩
  (repeat' first|(refine Ka ?_;first|refine Kb ?_|(refine Kc ?_;intro _))|refine Kd ?_|refine Kh ?_)
  refine TL.callv rfl rfl rfl rfl (crosses36_ok ht (pv:=.slice (some ⟨b1,0,none⟩) 4 4) (fv:=.slice (some ⟨b2,0,none⟩) 4 4) (pts:=tetP) (fcs:=tetF) (p:=⟨100,100,100⟩) (q:=⟨100,100,101⟩) (y:=true) (n:=700) (d:=1) (k:=3) (by decide) (by decide) (by decide) ex_cr1) ?_
  rintro _ _ ⟨rfl,rfl⟩
  (repeat' first|(refine Ka ?_;first|refine Kb ?_|(refine Kc ?_;intro _))|refine Kd ?_|refine Kh ?_)
  refine TL.callv rfl rfl rfl rfl (crosses36_ok ht (pv:=.slice (some ⟨b1,0,none⟩) 4 4) (fv:=.slice (some ⟨b2,0,none⟩) 4 4) (pts:=tetP) (fcs:=tetF) (p:=⟨-100,50,50⟩) (q:=⟨100,50,50⟩) (y:=false) (n:=1) (d:=2) (k:=2) (by decide) (by decide) (by decide) ex_cr2) ?_
  rintro _ _ ⟨rfl,rfl⟩
  (repeat' first|(refine Ka ?_;first|refine Kb ?_|(refine Kc ?_;intro _))|refine Kd ?_|refine Kh ?_)
  refine TL.callv rfl rfl rfl rfl (crosses36_ok ht (pv:=.slice (some ⟨b1,0,none⟩) 4 4) (fv:=.slice (some ⟨b2,0,none⟩) 4 4) (pts:=tetP) (fcs:=tetF) (p:=⟨-100,0,0⟩) (q:=⟨100,0,0⟩) (y:=false) (n:=1) (d:=2) (k:=0) (by decide) (by decide) (by decide) ex_cr3) ?_
  rintro _ _ ⟨rfl,rfl⟩
  (repeat' first|(refine Ka ?_;first|refine Kb ?_|(refine Kc ?_;intro _))|refine Kd ?_|refine Kh ?_)
  refine TL.callv rfl rfl rfl rfl (crosses36_ok ht (pv:=.slice (some ⟨b1,0,none⟩) 4 4) (fv:=.slice (some ⟨b2,0,none⟩) 4 4) (pts:=tetP) (fcs:=tetF) (p:=⟨100,0,0⟩) (q:=⟨-100,0,0⟩) (y:=false) (n:=0) (d:=1) (k:=0) (by decide) (by decide) (by decide) ex_cr4) ?_
  rintro _ _ ⟨rfl,rfl⟩
  (repeat' first|(refine Ka ?_;first|refine Kb ?_|(refine Kc ?_;intro _))|refine Kd ?_|refine Kh ?_)
  (refine Post.ra ?_)
  exact ⟨_,⟨rfl,rfl⟩,by (exact Ents.au)⟩
end Go.Proofs.YtgapnfaakdjpaaaGreatDoor

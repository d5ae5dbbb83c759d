/- Shells, plain: the cube of the examples. Walks: shells: the examples' helpers. Walks: shells: the examples of the chapter. -/
import Derived.Test.YtgapnfaakdjpaaaGreatDoorSw7
import Derived.Test.YtgapnfaakdjpaaaGreatDoorSh1
import Derived.Test.YtgapnfaakdjpaaaGreatDoorSxP
import Derived.Test.YtgapnfaakdjpaaaGreatDoorSw1
import Derived.Test.YtgapnfaakdjpaaaGreatDoorSw3
namespace Go.Sx
open Go
def cubeV (i:Nat):List Int:=[65535 * ((i:Int) / 4),65535 * ((i:Int) / 2 % 2),65535 * ((i:Int) % 2)]
def cubeP (n:Nat):List Int:=(List.range n).flatMap cubeV
def cubeD:List Int:=cubeP 8
theorem cubeP_len (n:Nat):(cubeP n).length=3 * n:=by
  induction n with
  | zero=>rfl
  | succ n ih =>
    unfold cubeP at ih ⊢
    rw [List.range_succ,List.flatMap_append,List.length_append,ih]
    simp [cubeV];omega
theorem cubeP_succ (n:Nat):cubeP (n+1)=cubeP n++cubeV n:=by
  unfold cubeP
  rw [List.range_succ,List.flatMap_append]
  simp
def cubePts:List V3:=shellP cubeD 2 2 2
def cubeFcs:List V3:=shellF 2 2 2
theorem cube_shell:shellR [2,2,2] 3 cubeD=(0,cubePts,cubeFcs):=by decide +kernel
theorem cube_okM:okM cubePts cubeFcs:=by decide +kernel
theorem cube_lens:cubePts.length=8∧cubeFcs.length=12:=by decide +kernel
theorem cube_vol:volM cubePts cubeFcs=39321600000000000:=by decide +kernel
theorem cube_p0:cubePts[0]?=some ⟨0,-128000,-128000⟩:=by decide +kernel
theorem cube_p7:cubePts[7]?=some ⟨100000,128000,128000⟩:=by decide +kernel
theorem cube_f0:cubeFcs[0]?=some ⟨0,3,2⟩:=by decide +kernel
theorem cube_f2:cubeFcs[2]?=some ⟨4,6,7⟩:=by decide +kernel
theorem flat_shell:shellR [2,2,2] 3 (List.replicate 24 0)=(5,[],[]):=by decide +kernel
theorem arg_shell:shellR [2,2] 3 (List.replicate 12 0)=(2,[],[]):=by decide +kernel
theorem nodes_222:nodesR [2,2,2]=(nodesF 2 2 2,0):=by decide +kernel
theorem nodes_222s:(nodesF 2 2 2).length=8∧(nodesF 2 2 2)[1]?=some ⟨0,0,1⟩∧(nodesF 2 2 2)[7]?=some ⟨1,1,1⟩:=by decide +kernel
theorem nodes_333:nodesR [3,3,3]=(nodesF 3 3 3,0):=by decide +kernel
theorem nodes_333s:(nodesF 3 3 3).length=26:=by decide +kernel
theorem nodes_999:nodesR [9,9,9]=([],3):=by decide +kernel
theorem color_a:colorR [0,0,65535]=(⟨0,-128000,128000⟩,0):=by decide +kernel
theorem color_b:colorR [65535,1,32768]=(⟨100000,-127996,2⟩,0):=by decide +kernel
end Go.Sx
namespace Go.Proofs.YtgapnfaakdjpaaaGreatDoor
open Go Go.Sx
variable {w0:World} {As:List Ent}
theorem color37_ok {x y z:Int}:CallsS Tryz.prog w0 32 [.int .i64 x,.int .i64 y,.int .i64 z] As fun u Bs=>u=.tuple #[(colorR [x,y,z]).1.val,.bool (decide ((colorR [x,y,z]).2=0))]∧Bs=As:=by
  refine CallsS.of_tri Tryz.func32 rfl Tryz.ntmps32 rfl ?_
  (repeat' first|(refine Ka ?_;first|refine Kb ?_|(refine Kc ?_;intro _))|refine Kd ?_|refine Kh ?_)
  refine TL.ents (Ents.clW (cI .i64) [x,y,z] rfl (n:=3) (cap:=3) rfl rfl) ?_
  have hl:([x,y,z]:List Int).length≤1000000000:=by simp
  generalize [x,y,z]=xs at hl ⊢
  refine TL.call rfl rfl rfl (color_ok (xs:=xs) hl) ?_
  rintro _ _ ⟨rfl,rfl⟩
  (repeat' first|(refine Ka ?_;first|refine Kb ?_|(refine Kc ?_;intro _))|refine Kd ?_|refine Kh ?_)
  (refine Post.ra ?_)
  exact ⟨_,⟨rfl,rfl⟩,by (exact Ents.au)⟩
theorem color37_at {x y z a b c e:Int} (h:colorR [x,y,z]=(⟨a,b,c⟩,e)):CallsS Tryz.prog w0 32 [.int .i64 x,.int .i64 y,.int .i64 z] As fun u Bs=>u=.tuple #[.agg #[.int .i64 a,.int .i64 b,.int .i64 c],.bool (decide (e=0))]∧Bs=As:=by
  have:=color37_ok (w0:=w0) (As:=As) (x:=x) (y:=y) (z:=z)
  rw [h] at this
  exact this
theorem nodR_eq {L:List V3} {e:Int} {u:Value} {Bs:List Ent} (h:NodR As (L,e) u Bs):∃ q,u=.tuple #[q,.int .i64 e]∧Bs=.ow cV3 31 q L::As:=h
def CubR (As:List Ent) (u:Value) (Bs:List Ent):Prop:=∃ sv dv,u=.agg #[sv,.int .i64 3,dv]∧Bs=.ow (cI .i64) 3 dv cubeD::.ow (cI .i64) 3 sv [2,2,2]::As
theorem cube_ok:CallsS Tryz.prog w0 61 [] As (CubR As):=by
  refine CallsS.of_tri Tryz.func61 rfl Tryz.ntmps61 rfl ?_
  (repeat' first|(refine Ka ?_;first|refine Kb ?_|(refine Kc ?_;intro _))|refine Kd ?_|refine Kh ?_)
  rename_i b1 b2
  refine TL.f rfl rfl (ExF.build (vs:=[.slice (some ⟨b2,0,none⟩) 3 3,.int .i64 3]) (l:=[.slice (some ⟨b2,0,none⟩) 3 3,.int .i64 3,.slice none 0 0]) rfl (fun w=>by kernel_rfl)) ?_
  refine TL.ents (Ents.clW (cI .i64) [2,2,2] rfl (n:=3) (cap:=3) rfl rfl) ?_
  refine TL.ents (Ents.nilW (T:=3) (cI .i64)) ?_
  (repeat' first|(refine Ka ?_;first|refine Kb ?_|(refine Kc ?_;intro _))|refine Kd ?_|refine Kh ?_)
  rename_i b3
  refine Tri.loop (ι:=Nat × Value) (fun s=>s.1≤8) (fun s=>8 - s.1) (fun s=>[(0,.pointer (some ⟨b1,0,none⟩)),(1,.pointer (some ⟨b3,0,none⟩)),(5,.int .i64 (s.1:Int))])
    (fun s=>.cl b3 [.slice (some ⟨b2,0,none⟩) 3 3,.int .i64 3,s.2] 76::.ow (cI .i64) 3 s.2 (cubeP s.1)::.ow (cI .i64) 3 (.slice (some ⟨b2,0,none⟩) 3 3) [2,2,2]::.cl b1 [.slice none 0 0,.int .i64 0,.slice none 0 0] 76::As) (0,.slice none 0 0) (Nat.zero_le _) (by (exact Sub.au)) (by simp only [show cubeP 0=[] from rfl];(exact Ents.au)) ?_
  rintro ⟨i,dv⟩ hi
  simp only at hi
  have hl1:=cubeP_len i
  show Tri _ _ _ _ [(0,_),(1,_),(5,.int .i64 (i:Int))] (.cl b3 [_,_,dv] _::.ow _ _ dv _::_) _
  (repeat' first|(refine Ka ?_;first|refine Kb ?_|(refine Kc ?_;intro _))|refine Kd ?_|refine Kh ?_)
  ((show Tri _ _ _ (.cond _ _ _) _ _ _;first|refine Tri.condP rfl (fun hc=>?_) (fun hc=>?_)|refine Tri.condN rfl (fun hc=>?_) (fun hc=>?_)))
  · have hs:=cubeP_succ i
    generalize cubeP i=Y at hl1 hs
    (repeat' first|(refine Ka ?_;first|refine Kb ?_|(refine Kc ?_;intro _))|refine Kd ?_|refine Kh ?_)
    refine TL.ents (Ents.clW (cI .i64) (cubeV i) rfl (n:=3) (cap:=3) rfl rfl) ?_
    have h3:(cubeV i).length=3:=rfl
    generalize cubeV i=V at hs h3 ⊢
    (repeat' first|(refine Ka ?_;first|refine Kb ?_|(refine Kc ?_;intro _))|refine Kd ?_|refine Kh ?_)
    rename_i v9
    refine Post.round (i+1,v9) (by simp only;omega) (by simp only;omega) (by (exact Sub.au)) ?_
    simp only
    rw [hs]
    (exact Ents.au)
  · have h8:i=8:=by omega
    subst h8
    refine Tri.rdSl (c:=cI .i64) (xs:=cubeP 8) dv ?_
    rintro p c rfl
    (repeat' first|(refine Ka ?_;first|refine Kb ?_|(refine Kc ?_;intro _))|refine Kd ?_|refine Kh ?_)
    (refine Post.ra ?_)
    exact ⟨_,⟨_,_,rfl,rfl⟩,by simp only [show cubeP 8=cubeD from rfl];(exact Ents.au)⟩
end Go.Proofs.YtgapnfaakdjpaaaGreatDoor
namespace Go.Proofs.YtgapnfaakdjpaaaGreatDoor
open Go Go.Sx
variable {w0:World} {As:List Ent}
set_option maxRecDepth 100000 in
set_option maxHeartbeats 4000000 in
theorem works_ok (ht:Tab w0):CallsS Tryz.prog w0 28 [] As fun u Bs=>u=.bool true∧Bs=As:=by
  have hc1:=cube_lens.1
  have hc2:=cube_lens.2
  have hp0:=cube_p0
  have hp7:=cube_p7
  have hf0:=cube_f0
  have hf2:=cube_f2
  obtain ⟨hn8,hn1,hn7⟩:=nodes_222s
  have hn26:=nodes_333s
  refine CallsS.of_tri Tryz.func28 rfl Tryz.ntmps28 rfl ?_
  (repeat' first|(refine Ka ?_;first|refine Kb ?_|(refine Kc ?_;intro _))|refine Kd ?_|refine Kh ?_)
  refine TL.call rfl rfl rfl (color37_at color_a) ?_
  rintro _ _ ⟨rfl,rfl⟩
  (repeat' first|(refine Ka ?_;first|refine Kb ?_|(refine Kc ?_;intro _))|refine Kd ?_|refine Kh ?_)
  refine TL.call rfl rfl rfl (color37_at color_b) ?_
  rintro _ _ ⟨rfl,rfl⟩
  (repeat' first|(refine Ka ?_;first|refine Kb ?_|(refine Kc ?_;intro _))|refine Kd ?_|refine Kh ?_)
  refine TL.ents (Ents.clW (cI .i64) [2,2,2] rfl (n:=3) (cap:=3) rfl rfl) ?_
  refine TL.call rfl rfl rfl (nodes_ok (xs:=[2,2,2]) (by decide)) ?_
  rw [nodes_222]
  generalize nodesF 2 2 2=L2 at hn8 hn1 hn7 ⊢
  intro _ _ h
  obtain ⟨q2,rfl,rfl⟩:=nodR_eq h
  refine TL.f rfl rfl (ExF.move rfl) ?_
  refine TL.f rfl rfl (show ExF _ _ _ _ _ _ _ q2 from ExF.extract rfl rfl) ?_
  (repeat' first|(refine Ka ?_;first|refine Kb ?_|(refine Kc ?_;intro _))|refine Kd ?_|refine Kh ?_)
  refine TL.ents (Ents.clW (cI .i64) [3,3,3] rfl (n:=3) (cap:=3) rfl rfl) ?_
  refine TL.call rfl rfl rfl (nodes_ok (xs:=[3,3,3]) (by decide)) ?_
  rw [nodes_333]
  generalize nodesF 3 3 3=L3 at hn26 ⊢
  intro _ _ h
  obtain ⟨q3,rfl,rfl⟩:=nodR_eq h
  refine TL.f rfl rfl (ExF.move rfl) ?_
  refine TL.f rfl rfl (show ExF _ _ _ _ _ _ _ q3 from ExF.extract rfl rfl) ?_
  (repeat' first|(refine Ka ?_;first|refine Kb ?_|(refine Kc ?_;intro _))|refine Kd ?_|refine Kh ?_)
  refine TL.ents (Ents.clW (cI .i64) [9,9,9] rfl (n:=3) (cap:=3) rfl rfl) ?_
  refine TL.call rfl rfl rfl (nodes_ok (xs:=[9,9,9]) (by decide)) ?_
  rw [nodes_999]
  intro _ _ h
  obtain ⟨q9,rfl,rfl⟩:=nodR_eq h
  (repeat' first|(refine Ka ?_;first|refine Kb ?_|(refine Kc ?_;intro _))|refine Kd ?_|refine Kh ?_)
  refine TL.call rfl rfl rfl cube_ok ?_
  rintro _ _ ⟨sv,dv,rfl,rfl⟩
  (repeat' first|(refine Ka ?_;first|refine Kb ?_|(refine Kc ?_;intro _))|refine Kd ?_|refine Kh ?_)
  refine TL.call rfl rfl rfl (shell_ok ht (S:=[2,2,2]) (D:=cubeD) (by decide) (by decide)) ?_
  intro _ _ h
  obtain ⟨pv,fv,rfl,h1,h2,rfl⟩:=meshR_eq cube_shell h
  have hv:∀ (E:List Ent) [RdIn E fv V3 cV3 cubeFcs] [RdIn E pv V3 cV3 cubePts],CallsS Tryz.prog w0 62 [.agg #[pv,fv]] E fun v Bs=>v=.tuple #[.string ⟨(textI 39321600000000000).toArray⟩,.int .i64 0]∧Bs=E:=by
    intro E _ _
    have:=volume6_ok (w0:=w0) ht (As:=E) (pv:=pv) (fv:=fv) (pts:=cubePts) (fcs:=cubeFcs)
    rw [if_pos cube_okM,cube_vol] at this
    exact this
  generalize cubePts=P at hc1 hp0 hp7 hv ⊢
  generalize cubeFcs=F at hc2 hf0 hf2 hv ⊢
  (repeat' first|(refine Ka ?_;first|refine Kb ?_|(refine Kc ?_;intro _))|refine Kd ?_|refine Kh ?_)
  rename_i bm
  refine TL.call rfl rfl rfl (hv _) ?_
  rintro _ _ ⟨rfl,rfl⟩
  (repeat' first|(refine Ka ?_;first|refine Kb ?_|(refine Kc ?_;intro _))|refine Kd ?_|refine Kh ?_)
  refine TL.call rfl rfl rfl cube_ok ?_
  rintro _ _ ⟨sv2,dv2,rfl,rfl⟩
  refine TL.rdSl (c:=cI .i64) (xs:=cubeD) dv2 ?_
  rintro p2 k2 rfl
  refine TL.rdSl (c:=cI .i64) (xs:=[2,2,2]) sv2 ?_
  rintro p3 k3 rfl
  (repeat' first|(refine Ka ?_;first|refine Kb ?_|(refine Kc ?_;intro _))|refine Kd ?_|refine Kh ?_)
  rename_i bf
  refine TL.rn rfl (ExR.clear1 (c:=cI .i64) (xs:=cubeD) (z0:=0) (z:=.int .i64 0) rfl rfl rfl) ?_
  rintro _ _ rfl
  rw [show cubeD.length=24 from rfl]
  (repeat' first|(refine Ka ?_;first|refine Kb ?_|(refine Kc ?_;intro _))|refine Kd ?_|refine Kh ?_)
  refine TL.call rfl rfl rfl (shell_ok ht (S:=[2,2,2]) (D:=List.replicate 24 0) (by decide) (by decide)) ?_
  intro _ _ h
  obtain ⟨pv2,fv2,rfl,h3,h4,rfl⟩:=meshR_eq flat_shell h
  (repeat' first|(refine Ka ?_;first|refine Kb ?_|(refine Kc ?_;intro _))|refine Kd ?_|refine Kh ?_)
  refine TL.ents (Ents.clW (cI .i64) [2,2] rfl (n:=2) (cap:=2) rfl rfl) ?_
  refine TL.rr rfl rfl (ExR.makeZ (cd:=cI .i64) (n:=12) rfl rfl (by omega) (by omega) (by omega) (by omega)) ?_
  rintro zv _ rfl
  refine TL.rdSl (c:=cI .i64) (xs:=List.replicate 12 0) zv ?_
  rintro p4 k4 rfl
  rw [List.length_replicate]
  (repeat' first|(refine Ka ?_;first|refine Kb ?_|(refine Kc ?_;intro _))|refine Kd ?_|refine Kh ?_)
  refine TL.call rfl rfl rfl (shell_ok ht (S:=[2,2]) (D:=List.replicate 12 0) (by decide) (by decide)) ?_
  intro _ _ h
  obtain ⟨pv3,fv3,rfl,h5,h6,rfl⟩:=meshR_eq arg_shell h
  (repeat' first|(refine Ka ?_;first|refine Kb ?_|(refine Kc ?_;intro _))|refine Kd ?_|refine Kh ?_)
  refine TL.f rfl rfl (ExF.idxRd rfl (by rfl) rfl (by show (7:Nat) < _;omega)) ?_
  (repeat' first|(refine Ka ?_;first|refine Kb ?_|(refine Kc ?_;intro _))|refine Kd ?_|refine Kh ?_)
  refine TL.f rfl rfl (ExF.idxRd rfl (by rfl) rfl (by show (7:Nat) < _;omega)) ?_
  (repeat' first|(refine Ka ?_;first|refine Kb ?_|(refine Kc ?_;intro _))|refine Kd ?_|refine Kh ?_)
  refine TL.call rfl rfl rfl (itoa_ok ht (n:=39321600000000000) (by omega) (by omega)) ?_
  rintro _ _ ⟨rfl,rfl⟩
  (repeat' first|(refine Ka ?_;first|refine Kb ?_|(refine Kc ?_;intro _))|refine Kd ?_|refine Kh ?_)
  rw [show (decide (textI 39321600000000000=Lib.itoa 39321600000000000))=true from decide_eq_true rfl]
  (repeat' first|(refine Ka ?_;first|refine Kb ?_|(refine Kc ?_;intro _))|refine Kd ?_|refine Kh ?_)
  (refine Post.ra ?_)
  exact ⟨_,⟨rfl,rfl⟩,by (exact Ents.au)⟩
end Go.Proofs.YtgapnfaakdjpaaaGreatDoor

/- Walks: InsideMoves. -/
import Derived.Test.YtgapnfaakdjpaaaGreatDoorIm1
import Derived.Test.YtgapnfaakdjpaaaGreatDoorMq6
import Derived.Test.YtgapnfaakdjpaaaGreatDoorJr1
import Derived.Test.YtgapnfaakdjpaaaGreatDoorIx7
import Derived.Test.YtgapnfaakdjpaaaGreatDoorIj1
import Derived.Test.YtgapnfaakdjpaaaGreatDoorMr5
namespace Go.Sx
open Go
theorem mn_le (a b:V3):((a.mn b).x≤a.x∧(a.mn b).y≤a.y∧(a.mn b).z≤a.z)∧((a.mn b).x≤b.x∧(a.mn b).y≤b.y∧(a.mn b).z≤b.z):=by
  simp only [V3.mn]
  refine ⟨⟨?_,?_,?_⟩,?_,?_,?_⟩<;>split<;>omega
theorem mx_le (a b:V3):(a.x≤(a.mx b).x∧a.y≤(a.mx b).y∧a.z≤(a.mx b).z)∧(b.x≤(a.mx b).x∧b.y≤(a.mx b).y∧b.z≤(a.mx b).z):=by
  simp only [V3.mx]
  refine ⟨⟨?_,?_,?_⟩,?_,?_,?_⟩<;>split<;>omega
def BoxI (P:List V3) (k:Nat) (lo hi:V3):Prop:=∀ j,j < k→∀ q,P[j]?=some q→(lo.x≤q.x∧lo.y≤q.y∧lo.z≤q.z)∧(q.x≤hi.x∧q.y≤hi.y∧q.z≤hi.z)
theorem BoxI.next {P:List V3} {k:Nat} {lo hi q:V3} (h:BoxI P k lo hi) (hq:P[k]?=some q):BoxI P (k+1) (lo.mn q) (hi.mx q):=by
  intro j hj r hr
  have h1:=mn_le lo q
  have h2:=mx_le hi q
  rcases Nat.lt_or_ge j k with h3|h3
  · have:=h j h3 r hr
    omega
  · rw [show j=k by omega,hq] at hr
    rw [← Option.some.inj hr]
    omega
theorem wndW_in (P F:List V3) (p:V3):-(F.length:Int)≤(wndW P F p).1∧(wndW P F p).1≤F.length:=by
  have h0:-(F.length:Int)≤windN P F p∧windN P F p≤F.length:=by
    unfold windN
    cases goodT P F p with
    | none=>simp only;omega
    | some t=>exact windK_in
  unfold wndW
  (repeat' split)<;>simp only<;>omega
structure MoveF (s e n f t g u h v i:Int):Prop where
  e0:e=0
  h0:h=0
  us:u=s
  fi:f=i
  vn:v=-n
  on:f=8↔s=1
  ins:n≠0↔s=2
  mv:g=2∨(g=0∧t=s)
theorem move_facts {P F:List V3} {p w:V3} (hg:Good P F) (hg':Good P (F.map swapF)) (hin:∀ q∈P,q.in 112396) (hw:w.in 32768) (hp:isFar p=false) :
    MoveF (sideW P F p).1 (sideW P F p).2 (wndW P F p).1 (wndW P F p).2 (sideW (P.map (·.add w)) F (p.add w)).1 (sideW (P.map (·.add w)) F (p.add w)).2 (sideW (P.map cyc) F (cyc p)).1 (sideW (P.map cyc) F (cyc p)).2 (wndW P (F.map swapF) p).1 (wndW P (F.map swapF) p).2:=by
  have hf:farF (P.map (·.add w))=none:=List.findIdx?_eq_none_iff.2 fun q hq=>by
    obtain ⟨r,hr,rfl⟩:=List.mem_map.1 hq
    have h1:=hin r hr
    obtain ⟨h1,h2,h3,h4,h5,h6⟩:=h1
    obtain ⟨k1,k2,k3,k4,k5,k6⟩:=hw
    rw [isFar_no]
    simp only [V3.add]
    omega
  have hm:=hg.move hf
  have hc:=(like_cyc (p:=p) hg).side hg hg.cyc hp (by rw [far_cyc];exact hp)
  have ht:=wnd_turn (p:=p) hg hg'
  have f1:(flawM P F).1=0:=okM_good.2 hg
  have f2:(flawM (P.map (·.add w)) F).1=0:=okM_good.2 hm
  rw [hc.1]
  have key:(sideW P F p).2=0∧((wndW P F p).2=8↔(sideW P F p).1=1)∧((wndW P F p).1≠0↔(sideW P F p).1=2):=by
    unfold sideW wndW
    rw [f1,hp]
    cases onM axP P F p with
    | true=>simp
    | false =>
      by_cases h0:windN P F p=0
      · simp [h0]
      · simp [h0]
  refine ⟨key.1,key.1,rfl,ht.2.symm,ht.1,key.2.1,key.2.2,?_⟩
  cases hpf:isFar (p.add w) with
  | true=>left;unfold sideW;rw [f2,hpf];rfl
  | false =>
    have hs:=(like_add (p:=p) (v:=w) hg).side hg hm hp hpf
    rw [hs.1]
    exact .inr ⟨key.1,rfl⟩
end Go.Sx
namespace Go.Proofs.YtgapnfaakdjpaaaGreatDoor
open Go Go.Sx
variable {w0:World} {As:List Ent} {pv fv:Value} {pts fcs:List V3}
theorem DraftA.shape (d:DraftA) (h:d.ok):∃ k:Nat,k < 4∧∃ B:List V3,d.mesh=(B,if d.tn then (shapeF k).map swapF else shapeF k)∧Sx.Good B (shapeF k)∧Sx.Good B ((shapeF k).map swapF)∧∀ q∈B,q.in 112396:=by
  obtain ⟨h1,h2,h3,h4,h5,h6,h7⟩:=h
  have hk:(d.kd % 4).toNat < 4:=by omega
  have ht:V3.in 32768 ⟨d.a0,d.a1,d.a2⟩:=⟨by simp only;omega,by simp only;omega,by simp only;omega,by simp only;omega,by simp only;omega,by simp only;omega⟩
  have hb:=base_ok (off:=d.off) hk (show (1:Int)≤1000+100 * d.sz by omega) (show 1000+100 * d.sz≤26500 by omega) ht
  exact ⟨_,hk,baseM (d.kd % 4).toNat (1000+100 * d.sz) ⟨d.a0,d.a1,d.a2⟩ d.off,draftM_turned hk (by omega) (by omega) ht d.tn,okM_good.1 hb,okM_good.1 (turn_ok hk baseM_len hb),base_in (by omega) (by omega) ht h6⟩
theorem DraftA.both (d:DraftA) (h:d.ok):Sx.Good d.mesh.1 d.mesh.2∧Sx.Good d.mesh.1 (d.mesh.2.map swapF)∧∀ q∈d.mesh.1,q.in 112396:=by
  obtain ⟨k,_,B,he,h1,h2,h3⟩:=d.shape h
  rw [he]
  cases d.tn with
  | false=>exact ⟨h1,h2,h3⟩
  | true =>
    refine ⟨h2,?_,h3⟩
    show Sx.Good B (((shapeF k).map swapF).map swapF)
    rw [swap_back]
    exact h1
theorem frzM {T U:TypeId} {R:List Ent} {a b:Value} {xs ys:List V3}:Ents (.ow cV3 T a xs::.ow cV3 U b ys::R) (.ft (rd cV3 a xs)::.ft (rd cV3 b ys)::R) :=
  Ents.trans Ents.freeze (Ents.trans (Ents.perm (List.Perm.swap _ _ _)) (Ents.trans Ents.freeze (Ents.perm (List.Perm.swap _ _ _))))
set_option maxRecDepth 100000 in
set_option maxHeartbeats 8000000 in
theorem insideMoves_ok (ht:Tab w0) (d:DraftA) (hd:d.ok) {y:PlaceA} (hy:y.ok) {s0 s1 s2:Int} (hs:(-32768≤s0∧s0≤32767)∧(-32768≤s1∧s1≤32767)∧(-32768≤s2∧s2≤32767)) [RdIn As d.ov Int (cI .i8) d.off] :
    CallsS Tryz.prog w0 6 [.agg d.cells.toArray,.agg y.cells.toArray,.agg #[.int .i16 s0,.int .i16 s1,.int .i16 s2]] As fun u _=>u=.bool true:=by
  obtain ⟨hg,hg',hin⟩:=d.both hd
  refine CallsS.rdOne d.ov (xs:=d.off) (c:=cI .i8) fun hov=>?_
  refine CallsS.of_tri Tryz.func6 rfl Tryz.ntmps6 rfl ?_
  show Tri _ _ _ _ (env0 0 [.agg #[.int .u8 d.kd,.int .u8 d.sz,.int .i16 d.a0,.int .i16 d.a1,.int .i16 d.a2,d.ov,.bool d.tn],.agg #[.int .u8 y.a0,.int .u8 y.a1,.int .u8 y.a2,.int .u8 y.w0,.int .u8 y.w1,.int .u8 y.w2,.int .i16 y.o0,.int .i16 y.o1,.int .i16 y.o2],.agg #[.int .i16 s0,.int .i16 s1,.int .i16 s2]]) _ _
  (repeat' first|(refine Ka ?_;first|refine Kb ?_|(refine Kc ?_;intro _))|refine Kd ?_|refine Kh ?_)
  refine TL.call rfl rfl rfl (works36_ok ht) ?_
  rintro _ _ ⟨rfl,rfl⟩
  (repeat' first|(refine Ka ?_;first|refine Kb ?_|(refine Kc ?_;intro _))|refine Kd ?_|refine Kh ?_)
  refine TL.callv rfl rfl rfl rfl (draftA_ok d hd) ?_
  rintro _ _ ⟨pv,fv,rfl,o1,o2,rfl⟩
  generalize d.mesh.1=P at *
  generalize d.mesh.2=F at *
  refine TL.ents frzM ?_
  refine TL.rdSl (c:=cV3) (xs:=P) pv fun pa ca e1=>TL.rdSl (c:=cV3) (xs:=F) fv fun pb cb e2=>?_
  subst e1 e2
  have hl4:=hg.p4
  have hl3:=hg.p300
  have hlf:=hg.f600
  (repeat' first|(refine Ka ?_;first|refine Kb ?_|(refine Kc ?_;intro _))|refine Kd ?_|refine Kh ?_)
  refine TL.callv rfl rfl rfl rfl (point_ok (x:=y) (pv:=.slice pa P.length ca) (fv:=.slice pb F.length cb) hy hg) ?_
  rintro _ _ ⟨p,hp,rfl,rfl⟩
  show TL _ _ _ _ _ ((_,.agg #[.int .i64 p.x,.int .i64 p.y,.int .i64 p.z])::_) _ _
  have hni:=wndW_in P F p
  have np:=isFar_no.1 hp
  have hM:=move_facts (p:=p) (w:=⟨s0,s1,s2⟩) hg hg' hin ⟨by simp only;omega,by simp only;omega,by simp only;omega,by simp only;omega,by simp only;omega,by simp only;omega⟩ hp
  have hbox:∀ lo hi:V3,(∀ q∈P,(lo.x≤q.x∧lo.y≤q.y∧lo.z≤q.z)∧(q.x≤hi.x∧q.y≤hi.y∧q.z≤hi.z))→(p.x < lo.x∨hi.x < p.x∨p.y < lo.y∨hi.y < p.y∨p.z < lo.z∨hi.z < p.z)→(sideW P F p).1=0:=fun lo hi h1 h2=>by rw [box_out hg hp h1 h2]
  (repeat' first|(refine Ka ?_;first|refine Kb ?_|(refine Kc ?_;intro _))|refine Kd ?_|refine Kh ?_)
  refine TL.callv rfl rfl rfl rfl (side_ok ht (pv:=.slice pa P.length ca) (fv:=.slice pb F.length cb) (pts:=P) (fcs:=F) (p:=p)) ?_
  rintro _ _ ⟨rfl,rfl⟩
  generalize (sideW P F p).1=s at *
  generalize (sideW P F p).2=e at *
  (repeat' first|(refine Ka ?_;first|refine Kb ?_|(refine Kc ?_;intro _))|refine Kd ?_|refine Kh ?_)
  refine TL.callv rfl rfl rfl rfl (winding_ok ht (pv:=.slice pa P.length ca) (fv:=.slice pb F.length cb) (pts:=P) (fcs:=F) (p:=p)) ?_
  rintro _ _ ⟨rfl,rfl⟩
  generalize (wndW P F p).1=n at *
  generalize (wndW P F p).2=f at *
  (repeat' first|(refine Ka ?_;first|refine Kb ?_|(refine Kc ?_;intro _))|refine Kd ?_|refine Kh ?_)
  rename_i b3 b4 b5 b7 b8
  refine Tri.mid (fun e' As'=>∃ b13 b14,e'=[(5,.pointer (some ⟨b5,0,none⟩)),(7,.pointer (some ⟨b7,0,none⟩)),(8,.pointer (some ⟨b8,0,none⟩)),(9,.int .i64 s),(10,.int .i64 e),(11,.int .i64 n),(12,.int .i64 f),(13,.pointer (some ⟨b13,0,none⟩)),(14,.pointer (some ⟨b14,0,none⟩))]∧As'=.cl b13 [.slice none 0 0,.slice pb F.length cb] 34::.cl b14 [.slice none 0 0,.slice pb F.length cb] 34::.cl b8 [.int .i64 p.x,.int .i64 p.y,.int .i64 p.z] 31::.cl b7 [.slice pa P.length ca,.slice pb F.length cb] 34::.ft (rd cV3 (.slice pa P.length ca) P)::.ft (rd cV3 (.slice pb F.length cb) F)::.cl b5 [.int .i16 s0,.int .i16 s1,.int .i16 s2] 23::As) ?_ ?_
  · refine Tri.dw [.cl b7 [.slice pa P.length ca,.slice pb F.length cb] 34] [] (.take 0 (.take 1 (.take 2 (.take 3 (.take 4 (.take 5 (.all [(6,.all [(7,.all [(8,.all [(9,.done)])])]),(7,.all [(6,.all [(8,.all [(9,.done)])])])]))))))) ?_
    (repeat' first|(refine Ka ?_;first|refine Kb ?_|(refine Kc ?_;intro _))|refine Kd ?_|(refine Ki ?_;refine Kj ?_)|exact Kk|refine Kl ?_ ?_|(refine Km ?_;first|refine Kn ?_|(refine Ko ?_;intro _))|(refine Kp ?_;first|refine Kq ?_|refine Kr ?_)|refine Kh ?_)
    refine TT.take rfl rfl rfl (ExF.build (vs:=[.slice pb F.length cb]) (l:=[.slice none 0 0,.slice pb F.length cb]) rfl (fun w=>by kernel_rfl)) ?_
    (repeat' first|(refine Ka ?_;first|refine Kb ?_|(refine Kc ?_;intro _))|refine Kd ?_|(refine Ki ?_;refine Kj ?_)|exact Kk|refine Kl ?_ ?_|(refine Km ?_;first|refine Kn ?_|(refine Ko ?_;intro _))|(refine Kp ?_;first|refine Kq ?_|refine Kr ?_)|refine Kh ?_)
    refine TT.take rfl rfl rfl (ExF.build (vs:=[.slice pb F.length cb]) (l:=[.slice none 0 0,.slice pb F.length cb]) rfl (fun w=>by kernel_rfl)) ?_
    (repeat' first|(refine Ka ?_;first|refine Kb ?_|(refine Kc ?_;intro _))|refine Kd ?_|(refine Ki ?_;refine Kj ?_)|exact Kk|refine Kl ?_ ?_|(refine Km ?_;first|refine Kn ?_|(refine Ko ?_;intro _))|(refine Kp ?_;first|refine Kq ?_|refine Kr ?_)|refine Kh ?_)
    all_goals exact Post.cut _ _ ⟨_,_,rfl,rfl⟩ (by (exact Sub.au)) (by (exact Ents.au))
  rintro _ _ ⟨b13,b14,rfl,rfl⟩
  obtain ⟨q0,hq0⟩:∃ q,P[0]?=some q:=⟨_,List.getElem?_eq_getElem (by omega)⟩
  (repeat' first|(refine Ka ?_;first|refine Kb ?_|(refine Kc ?_;intro _))|refine Kd ?_|(refine Ki ?_;refine Kj ?_)|exact Kk|refine Kl ?_ ?_|(refine Km ?_;first|refine Kn ?_|(refine Ko ?_;intro _))|(refine Kp ?_;first|refine Kq ?_|refine Kr ?_)|refine Kh ?_)
  refine Tri.mid (fun e' As'=>∃ b15 b16,e'=[(5,.pointer (some ⟨b5,0,none⟩)),(7,.pointer (some ⟨b7,0,none⟩)),(8,.pointer (some ⟨b8,0,none⟩)),(9,.int .i64 s),(10,.int .i64 e),(11,.int .i64 n),(12,.int .i64 f),(13,.pointer (some ⟨b13,0,none⟩)),(14,.pointer (some ⟨b14,0,none⟩)),(15,.pointer (some ⟨b15,0,none⟩)),(16,.pointer (some ⟨b16,0,none⟩))]∧As'=.cl b15 [.int .i64 q0.x,.int .i64 q0.y,.int .i64 q0.z] 31::.cl b16 [.int .i64 q0.x,.int .i64 q0.y,.int .i64 q0.z] 31::.cl b13 [.slice none 0 0,.slice pb F.length cb] 34::.cl b14 [.slice none 0 0,.slice pb F.length cb] 34::.cl b8 [.int .i64 p.x,.int .i64 p.y,.int .i64 p.z] 31::.cl b7 [.slice pa P.length ca,.slice pb F.length cb] 34::.ft (rd cV3 (.slice pa P.length ca) P)::.ft (rd cV3 (.slice pb F.length cb) F)::.cl b5 [.int .i16 s0,.int .i16 s1,.int .i16 s2] 23::As) ?_ ?_
  · refine Tri.dw (.cl b8 [.int .i64 p.x,.int .i64 p.y,.int .i64 p.z] 31::.cl b7 [.slice pa P.length ca,.slice pb F.length cb] 34::.ft (rd cV3 (.slice pa P.length ca) P)::.ft (rd cV3 (.slice pb F.length cb) F)::.cl b5 [.int .i16 s0,.int .i16 s1,.int .i16 s2] 23::As) [] (.take 0 (.take 1 (.take 2 (.take 3 (.take 4 (.take 5 (.take 6 (.take 7 (.all [(8,.all [(9,.all [(10,.all [(11,.done)])])]),(9,.all [(8,.all [(10,.all [(11,.done)])])])]))))))))) ?_
    (repeat' first|(refine Ka ?_;first|refine Kb ?_|(refine Kc ?_;intro _))|refine Kd ?_|(refine Ki ?_;refine Kj ?_)|exact Kk|refine Kl ?_ ?_|(refine Km ?_;first|refine Kn ?_|(refine Ko ?_;intro _))|(refine Kp ?_;first|refine Kq ?_|refine Kr ?_)|refine Kh ?_)
    all_goals exact Post.cut _ _ ⟨_,_,rfl,rfl⟩ (by (exact Sub.au)) (by (exact Ents.au))
  rintro _ _ ⟨b15,b16,rfl,rfl⟩
  (repeat' first|(refine Ka ?_;first|refine Kb ?_|(refine Kc ?_;intro _))|refine Kd ?_|(refine Ki ?_;refine Kj ?_)|exact Kk|refine Kl ?_ ?_|(refine Km ?_;first|refine Kn ?_|(refine Ko ?_;intro _))|(refine Kp ?_;first|refine Kq ?_|refine Kr ?_)|refine Kh ?_)
  refine Tri.ents (Ents.nilW (T:=31) cV3) ?_
  refine Tri.ents (Ents.nilW (T:=31) cV3) ?_
  refine Tri.loop (ι:=Nat × (Option Addr × Nat) × (Option Addr × Nat) × V3 × V3) (fun S=>S.1≤P.length∧BoxI P S.1 S.2.2.2.1 S.2.2.2.2) (fun S=>P.length - S.1)
    (fun S=>[(5,.pointer (some ⟨b5,0,none⟩)),(7,.pointer (some ⟨b7,0,none⟩)),(8,.pointer (some ⟨b8,0,none⟩)),(9,.int .i64 s),(10,.int .i64 e),(11,.int .i64 n),(12,.int .i64 f),(13,.pointer (some ⟨b13,0,none⟩)),(14,.pointer (some ⟨b14,0,none⟩)),(15,.pointer (some ⟨b15,0,none⟩)),(16,.pointer (some ⟨b16,0,none⟩)),(61,.slice pa P.length ca),(62,.int .i64 P.length),(63,.int .i64 (S.1:Int))])
    (fun S=>.ow cV3 31 (.slice S.2.1.1 S.1 S.2.1.2) ((P.take S.1).map (·.add ⟨s0,s1,s2⟩))::.ow cV3 31 (.slice S.2.2.1.1 S.1 S.2.2.1.2) ((P.take S.1).map cyc) ::
      .cl b15 [.int .i64 S.2.2.2.1.x,.int .i64 S.2.2.2.1.y,.int .i64 S.2.2.2.1.z] 31::.cl b16 [.int .i64 S.2.2.2.2.x,.int .i64 S.2.2.2.2.y,.int .i64 S.2.2.2.2.z] 31 ::
      .cl b13 [.slice S.2.1.1 S.1 S.2.1.2,.slice pb F.length cb] 34::.cl b14 [.slice S.2.2.1.1 S.1 S.2.2.1.2,.slice pb F.length cb] 34::.cl b8 [.int .i64 p.x,.int .i64 p.y,.int .i64 p.z] 31::.cl b7 [.slice pa P.length ca,.slice pb F.length cb] 34::.ft (rd cV3 (.slice pa P.length ca) P)::.ft (rd cV3 (.slice pb F.length cb) F)::.cl b5 [.int .i16 s0,.int .i16 s1,.int .i16 s2] 23::As) (0,(none,0),(none,0),q0,q0) ⟨by simp,fun j h=>by simp only at h;omega⟩ (by (exact Sub.au)) (by simp only [List.take_zero,List.map_nil];(exact Ents.au)) ?_
  rintro ⟨k,⟨p1,c1⟩,⟨p2,c2⟩,lo,hi⟩ ⟨hk,hB⟩
  simp only at hk hB
  have hlen1:((P.take k).map (·.add ⟨s0,s1,s2⟩)).length=k:=by simp;omega
  have hlen2:((P.take k).map cyc).length=k:=by simp;omega
  generalize hxs:(P.take k).map (·.add ⟨s0,s1,s2⟩)=xs at hlen1 ⊢
  generalize hys:(P.take k).map cyc=ys at hlen2 ⊢
  show Tri _ _ _ _ [(5,.pointer (some ⟨b5,0,none⟩)),(7,.pointer (some ⟨b7,0,none⟩)),(8,.pointer (some ⟨b8,0,none⟩)),(9,.int .i64 s),(10,.int .i64 e),(11,.int .i64 n),(12,.int .i64 f),(13,.pointer (some ⟨b13,0,none⟩)),(14,.pointer (some ⟨b14,0,none⟩)),(15,.pointer (some ⟨b15,0,none⟩)),(16,.pointer (some ⟨b16,0,none⟩)),(61,.slice pa P.length ca),(62,.int .i64 P.length),(63,.int .i64 (k:Int))] (.ow cV3 31 (.slice p1 k c1) xs::.ow cV3 31 (.slice p2 k c2) ys ::
      .cl b15 [.int .i64 lo.x,.int .i64 lo.y,.int .i64 lo.z] 31::.cl b16 [.int .i64 hi.x,.int .i64 hi.y,.int .i64 hi.z] 31 ::
      .cl b13 [.slice p1 k c1,.slice pb F.length cb] 34::.cl b14 [.slice p2 k c2,.slice pb F.length cb] 34::_) _
  (repeat' first|(refine Ka ?_;first|refine Kb ?_|(refine Kc ?_;intro _))|refine Kd ?_|(refine Ki ?_;refine Kj ?_)|exact Kk|refine Kl ?_ ?_|(refine Km ?_;first|refine Kn ?_|(refine Ko ?_;intro _))|(refine Kp ?_;first|refine Kq ?_|refine Kr ?_)|refine Kh ?_)
  ((show Tri _ _ _ (.cond _ _ _) _ _ _;first|refine Tri.condP rfl (fun hc=>?_) (fun hc=>?_)|refine Tri.condN rfl (fun hc=>?_) (fun hc=>?_)))
  · obtain ⟨q,hq⟩:∃ p,P[k]?=some p:=⟨_,List.getElem?_eq_getElem (by omega)⟩
    obtain ⟨i1,i2,i3,i4,i5,i6⟩:=hin q (List.mem_of_getElem? hq)
    (repeat' first|(refine Ka ?_;first|refine Kb ?_|(refine Kc ?_;intro _))|refine Kd ?_|refine Kh ?_)
    rename_i b18 _ v8 _ v9
    refine Tri.unroll 4 ?_
    iterate 3
      (repeat' first|(refine Ka ?_;first|refine Kb ?_|(refine Kc ?_;intro _))|refine Kd ?_|(refine Ki ?_;refine Kj ?_)|exact Kk|refine Kl ?_ ?_|(refine Km ?_;first|refine Kn ?_|(refine Ko ?_;intro _))|(refine Kp ?_;first|refine Kq ?_|refine Kr ?_)|refine Kh ?_)
      refine Tri.dw [.cl b18 [.int .i64 q.x,.int .i64 q.y,.int .i64 q.z] 31] [(4,.c b15),(11,.c b16)] (.take 0 (.take 1 (.take 2 (.take 3 (.take 4 (.take 5 (.take 6 (.take 7 (.take 8 (.take 9 (.take 10 (.take 11 (.take 12 (.take 13 (.take 14 (.take 15 (.take 16 (.all [(17,.take 18 (.all [(19,.done)]))])))))))))))))))))) ?_
    (repeat' first|(refine Ka ?_;first|refine Kb ?_|(refine Kc ?_;intro _))|refine Kd ?_|(refine Ki ?_;refine Kj ?_)|exact Kk|refine Kl ?_ ?_|(refine Km ?_;first|refine Kn ?_|(refine Ko ?_;intro _))|(refine Kp ?_;first|refine Kq ?_|refine Kr ?_)|refine Kh ?_)
    have el1:(xs++[(⟨q.x+s0,q.y+s1,q.z+s2⟩:V3)]).length=k+1:=by simp [hlen1]
    have el2:(ys++[(⟨q.y,q.z,q.x⟩:V3)]).length=k+1:=by simp [hlen2]
    refine Post.rdSl (c:=cV3) (xs:=xs++[(⟨q.x+s0,q.y+s1,q.z+s2⟩:V3)]) v8 fun p8 c8 e8=>Post.rdSl (c:=cV3) (xs:=ys++[(⟨q.y,q.z,q.x⟩:V3)]) v9 fun p9 c9 e9=>?_
    rw [el1] at e8
    rw [el2] at e9
    subst e8 e9
    refine Post.round (k+1,(p8,c8),(p9,c9),lo.mn q,hi.mx q) ⟨by simp only;omega,hB.next hq⟩ (by simp only;omega) (by (exact Sub.au)) ?_
    show Ents _ (.ow cV3 _ (.slice p8 (k+1) c8) ((P.take (k+1)).map (·.add ⟨s0,s1,s2⟩))::.ow cV3 _ (.slice p9 (k+1) c9) ((P.take (k+1)).map cyc)::.cl b15 [.int .i64 (if q.x < lo.x then q.x else lo.x),.int .i64 (if q.y < lo.y then q.y else lo.y),.int .i64 (if q.z < lo.z then q.z else lo.z)] _ ::
      .cl b16 [.int .i64 (if hi.x < q.x then q.x else hi.x),.int .i64 (if hi.y < q.y then q.y else hi.y),.int .i64 (if hi.z < q.z then q.z else hi.z)] _::.cl b13 [.slice p8 (k+1) c8,_] _::.cl b14 [.slice p9 (k+1) c9,_] _::_)
    rw [show (P.take (k+1)).map (·.add ⟨s0,s1,s2⟩)=xs++[(⟨q.x+s0,q.y+s1,q.z+s2⟩:V3)] by rw [List.take_add_one,hq,List.map_append,hxs];rfl,
      show (P.take (k+1)).map cyc=ys++[(⟨q.y,q.z,q.x⟩:V3)] by rw [List.take_add_one,hq,List.map_append,hys];rfl]
    (exact Ents.au)
  · (repeat' first|(refine Ka ?_;first|refine Kb ?_|(refine Kc ?_;intro _))|refine Kd ?_|(refine Ki ?_;refine Kj ?_)|exact Kk|refine Kl ?_ ?_|(refine Km ?_;first|refine Kn ?_|(refine Ko ?_;intro _))|(refine Kp ?_;first|refine Kq ?_|refine Kr ?_)|refine Kh ?_)
    have hke:k=P.length:=by omega
    subst hke
    rw [List.take_length] at hxs hys
    have hbx:=hbox lo hi fun q hq=>by
      obtain ⟨j,hj⟩:=List.getElem?_of_mem hq
      exact hB j (List.getElem?_eq_some_iff.1 hj).1 q hj
    subst hxs hys
    clear hbox hB
    refine TL.callv rfl rfl rfl rfl (side_ok ht (pv:=.slice p1 P.length c1) (fv:=.slice pb F.length cb) (pts:=P.map (fun x:V3=>x.add ⟨s0,s1,s2⟩)) (fcs:=F) (p:=p.add ⟨s0,s1,s2⟩)) ?_
    rintro _ _ ⟨rfl,rfl⟩
    generalize (sideW (P.map (·.add ⟨s0,s1,s2⟩)) F (p.add ⟨s0,s1,s2⟩)).1=t at *
    generalize (sideW (P.map (·.add ⟨s0,s1,s2⟩)) F (p.add ⟨s0,s1,s2⟩)).2=g at *
    (repeat' first|(refine Ka ?_;first|refine Kb ?_|(refine Kc ?_;intro _))|refine Kd ?_|refine Kh ?_)
    refine TL.callv rfl rfl rfl rfl (side_ok ht (pv:=.slice p2 P.length c2) (fv:=.slice pb F.length cb) (pts:=P.map cyc) (fcs:=F) (p:=cyc p)) ?_
    rintro _ _ ⟨rfl,rfl⟩
    generalize (sideW (P.map cyc) F (cyc p)).1=u at *
    generalize (sideW (P.map cyc) F (cyc p)).2=h at *
    (repeat' first|(refine Ka ?_;first|refine Kb ?_|(refine Kc ?_;intro _))|refine Kd ?_|refine Kh ?_)
    refine Tri.dw (.cl b8 [.int .i64 p.x,.int .i64 p.y,.int .i64 p.z] 31::.cl b7 [.slice pa P.length ca,.slice pb F.length cb] 34::.ft (rd cV3 (.slice pa P.length ca) P)::.ft (rd cV3 (.slice pb F.length cb) F)::.cl b5 [.int .i16 s0,.int .i16 s1,.int .i16 s2] 23::As) [] (.take 0 (.take 2 (.all [(1,.all [(3,.take 4 (.take 5 (.take 6 (.take 7 (.take 8 (.done))))))])]))) ?_
    (repeat' first|(refine Ka ?_;first|refine Kb ?_|(refine Kc ?_;intro _))|refine Kd ?_|(refine Ki ?_;refine Kj ?_)|exact Kk|refine Kl ?_ ?_|(refine Km ?_;first|refine Kn ?_|(refine Ko ?_;intro _))|(refine Kp ?_;first|refine Kq ?_|refine Kr ?_)|refine Kh ?_)
    refine T1.callv rfl rfl rfl rfl rfl (turned36_ok (pv:=.slice pa P.length ca) (fv:=.slice pb F.length cb) (pts:=P) (fcs:=F) (by omega)) ?_
    rintro _ _ ⟨p3,c3,rfl,rfl⟩
    (repeat' first|(refine Ka ?_;first|refine Kb ?_|(refine Kc ?_;intro _))|refine Kd ?_|(refine Ki ?_;refine Kj ?_)|exact Kk|refine Kl ?_ ?_|(refine Km ?_;first|refine Kn ?_|(refine Ko ?_;intro _))|(refine Kp ?_;first|refine Kq ?_|refine Kr ?_)|refine Kh ?_)
    refine T1.callv rfl rfl rfl rfl rfl (winding_ok ht (pv:=.slice pa P.length ca) (fv:=.slice p3 F.length c3) (pts:=P) (fcs:=F.map swapF) (p:=p)) ?_
    rintro _ _ ⟨rfl,rfl⟩
    generalize (wndW P (F.map swapF) p).1=v at *
    generalize (wndW P (F.map swapF) p).2=i at *
    obtain ⟨e0,h0,us,fi,vn,on,ins,mv⟩:=hM
    replace us:=us.symm
    subst e0 h0 us fi vn
    have hb:s≠0→¬ p.x < lo.x∧¬ hi.x < p.x∧¬ p.y < lo.y∧¬ hi.y < p.y∧¬ p.z < lo.z∧¬ hi.z < p.z:=fun h=>⟨fun k=>h (hbx (.inl k)),fun k=>h (hbx (.inr (.inl k))),fun k=>h (hbx (.inr (.inr (.inl k)))),fun k=>h (hbx (.inr (.inr (.inr (.inl k))))),fun k=>h (hbx (.inr (.inr (.inr (.inr (.inl k)))))),fun k=>h (hbx (.inr (.inr (.inr (.inr (.inr k))))))⟩
    clear hbx
    (repeat' first|(refine Ka ?_;first|refine Kb ?_|(refine Kc ?_;intro _))|refine Kd ?_|(refine Ki ?_;refine Kj ?_)|exact Kk|refine Kl ?_ ?_|(refine Km ?_;first|refine Kn ?_|(refine Ko ?_;intro _))|(refine Kp ?_;first|refine Kq ?_|refine Kr ?_)|refine Kh ?_)
    rw [show decide (decide (f=8)=decide (s=1))=true from decide_eq_true (by rw [decide_eq_decide];exact on)]
    (repeat' first|(refine Ka ?_;first|refine Kb ?_|(refine Kc ?_;intro _))|refine Kd ?_|(refine Ki ?_;refine Kj ?_)|exact Kk|refine Kl ?_ ?_|(refine Km ?_;first|refine Kn ?_|(refine Ko ?_;intro _))|(refine Kp ?_;first|refine Kq ?_|refine Kr ?_)|refine Kh ?_)
    rw [show decide ((!decide (n=0))=decide (s=2))=true from decide_eq_true (by rw [← decide_not,decide_eq_decide];exact ins)]
    clear on ins
    (repeat' first|(refine Ka ?_;first|refine Kb ?_|(refine Kc ?_;intro _))|refine Kd ?_|(refine Ki ?_;refine Kj ?_)|exact Kk|refine Kl ?_ ?_|(refine Km ?_;first|refine Kn ?_|(refine Ko ?_;intro _))|(refine Kp ?_;first|refine Kq ?_|refine Kr ?_)|refine Kh ?_)
    rcases mv with mv|⟨mv1,mv2⟩
    all_goals
      (repeat' first|(refine Ka ?_;first|refine Kb ?_|(refine Kc ?_;intro _))|refine Kd ?_|(refine Ki ?_;refine Kj ?_)|exact Kk|refine Kl ?_ ?_|(refine Km ?_;first|refine Kn ?_|(refine Ko ?_;intro _))|(refine Kp ?_;first|refine Kq ?_|refine Kr ?_)|refine Kh ?_)
      by_cases hs0:s=0
      · clear hb
        refine Tri.loop (ι:=Nat) (fun k=>k≤3) (fun k=>3 - k) (fun k=>[(8,.pointer (some ⟨b8,0,none⟩)),(15,.pointer (some ⟨b15,0,none⟩)),(16,.pointer (some ⟨b16,0,none⟩)),(9,.int .i64 s),(216,.int .i64 (k:Int))])
          (fun k=>.cl b15 [.int .i64 lo.x,.int .i64 lo.y,.int .i64 lo.z] 31::.cl b16 [.int .i64 hi.x,.int .i64 hi.y,.int .i64 hi.z] 31::.cl b8 [.int .i64 p.x,.int .i64 p.y,.int .i64 p.z] 31::As) 0 (by decide) (by (exact Sub.au)) (by (exact Ents.au)) ?_
        intro k hk
        rcases (show k=0∨k=1∨k=2∨k=3 by omega) with rfl|rfl|rfl|rfl
        all_goals clear hk
        · by_cases c1:p.x < lo.x
          · (repeat' first|(refine Ka ?_;first|refine Kb ?_|(refine Kc ?_;intro _))|refine Kd ?_|(refine Ki ?_;refine Kj ?_)|exact Kk|refine Kl ?_ ?_|(refine Km ?_;first|refine Kn ?_|(refine Ko ?_;intro _))|(refine Kp ?_;first|refine Kq ?_|refine Kr ?_)|refine Kh ?_)
            refine Tri.dw [.cl b8 [.int .i64 p.x,.int .i64 p.y,.int .i64 p.z] 31,.cl b15 [.int .i64 lo.x,.int .i64 lo.y,.int .i64 lo.z] 31,.cl b16 [.int .i64 hi.x,.int .i64 hi.y,.int .i64 hi.z] 31] [] (.take 0 (.take 1 (.take 2 (.take 3 (.take 4 (.take 5 (.take 6 (.take 7 (.take 8 (.take 9 (.take 10 (.take 11 (.take 12 (.take 13 (.take 14 (.take 15 (.take 16 (.take 17 (.take 18 (.take 19 (.done))))))))))))))))))))) ?_
            (repeat' first|(refine Ka ?_;first|refine Kb ?_|(refine Kc ?_;intro _))|refine Kd ?_|(refine Ki ?_;refine Kj ?_)|exact Kk|refine Kl ?_ ?_|(refine Km ?_;first|refine Kn ?_|(refine Ko ?_;intro _))|(refine Kp ?_;first|refine Kq ?_|refine Kr ?_)|refine Kh ?_)
            exact Post.round 1 (by omega) (by omega) (by (exact Sub.au)) (by (exact Ents.au))
          · by_cases c2:hi.x < p.x
            · (repeat' first|(refine Ka ?_;first|refine Kb ?_|(refine Kc ?_;intro _))|refine Kd ?_|(refine Ki ?_;refine Kj ?_)|exact Kk|refine Kl ?_ ?_|(refine Km ?_;first|refine Kn ?_|(refine Ko ?_;intro _))|(refine Kp ?_;first|refine Kq ?_|refine Kr ?_)|refine Kh ?_)
              refine Tri.dw [.cl b8 [.int .i64 p.x,.int .i64 p.y,.int .i64 p.z] 31,.cl b15 [.int .i64 lo.x,.int .i64 lo.y,.int .i64 lo.z] 31,.cl b16 [.int .i64 hi.x,.int .i64 hi.y,.int .i64 hi.z] 31] [] (.take 0 (.take 1 (.take 2 (.take 3 (.take 4 (.take 5 (.take 6 (.take 7 (.take 8 (.take 9 (.take 10 (.take 11 (.take 12 (.take 13 (.take 14 (.take 15 (.take 16 (.take 17 (.take 18 (.take 19 (.done))))))))))))))))))))) ?_
              (repeat' first|(refine Ka ?_;first|refine Kb ?_|(refine Kc ?_;intro _))|refine Kd ?_|(refine Ki ?_;refine Kj ?_)|exact Kk|refine Kl ?_ ?_|(refine Km ?_;first|refine Kn ?_|(refine Ko ?_;intro _))|(refine Kp ?_;first|refine Kq ?_|refine Kr ?_)|refine Kh ?_)
              exact Post.round 1 (by omega) (by omega) (by (exact Sub.au)) (by (exact Ents.au))
            · (repeat' first|(refine Ka ?_;first|refine Kb ?_|(refine Kc ?_;intro _))|refine Kd ?_|(refine Ki ?_;refine Kj ?_)|exact Kk|refine Kl ?_ ?_|(refine Km ?_;first|refine Kn ?_|(refine Ko ?_;intro _))|(refine Kp ?_;first|refine Kq ?_|refine Kr ?_)|refine Kh ?_)
              refine Tri.dw [.cl b8 [.int .i64 p.x,.int .i64 p.y,.int .i64 p.z] 31,.cl b15 [.int .i64 lo.x,.int .i64 lo.y,.int .i64 lo.z] 31,.cl b16 [.int .i64 hi.x,.int .i64 hi.y,.int .i64 hi.z] 31] [] (.take 0 (.take 1 (.take 2 (.take 3 (.take 4 (.take 5 (.take 6 (.take 7 (.take 8 (.take 9 (.take 10 (.take 11 (.take 12 (.take 13 (.take 14 (.take 15 (.take 16 (.take 17 (.take 18 (.take 19 (.done))))))))))))))))))))) ?_
              (repeat' first|(refine Ka ?_;first|refine Kb ?_|(refine Kc ?_;intro _))|refine Kd ?_|(refine Ki ?_;refine Kj ?_)|exact Kk|refine Kl ?_ ?_|(refine Km ?_;first|refine Kn ?_|(refine Ko ?_;intro _))|(refine Kp ?_;first|refine Kq ?_|refine Kr ?_)|refine Kh ?_)
              exact Post.round 1 (by omega) (by omega) (by (exact Sub.au)) (by (exact Ents.au))
        · by_cases c1:p.y < lo.y
          · (repeat' first|(refine Ka ?_;first|refine Kb ?_|(refine Kc ?_;intro _))|refine Kd ?_|(refine Ki ?_;refine Kj ?_)|exact Kk|refine Kl ?_ ?_|(refine Km ?_;first|refine Kn ?_|(refine Ko ?_;intro _))|(refine Kp ?_;first|refine Kq ?_|refine Kr ?_)|refine Kh ?_)
            refine Tri.dw [.cl b8 [.int .i64 p.x,.int .i64 p.y,.int .i64 p.z] 31,.cl b15 [.int .i64 lo.x,.int .i64 lo.y,.int .i64 lo.z] 31,.cl b16 [.int .i64 hi.x,.int .i64 hi.y,.int .i64 hi.z] 31] [] (.take 0 (.take 1 (.take 2 (.take 3 (.take 4 (.take 5 (.take 6 (.take 7 (.take 8 (.take 9 (.take 10 (.take 11 (.take 12 (.take 13 (.take 14 (.take 15 (.take 16 (.take 17 (.take 18 (.take 19 (.done))))))))))))))))))))) ?_
            (repeat' first|(refine Ka ?_;first|refine Kb ?_|(refine Kc ?_;intro _))|refine Kd ?_|(refine Ki ?_;refine Kj ?_)|exact Kk|refine Kl ?_ ?_|(refine Km ?_;first|refine Kn ?_|(refine Ko ?_;intro _))|(refine Kp ?_;first|refine Kq ?_|refine Kr ?_)|refine Kh ?_)
            exact Post.round 2 (by omega) (by omega) (by (exact Sub.au)) (by (exact Ents.au))
          · by_cases c2:hi.y < p.y
            · (repeat' first|(refine Ka ?_;first|refine Kb ?_|(refine Kc ?_;intro _))|refine Kd ?_|(refine Ki ?_;refine Kj ?_)|exact Kk|refine Kl ?_ ?_|(refine Km ?_;first|refine Kn ?_|(refine Ko ?_;intro _))|(refine Kp ?_;first|refine Kq ?_|refine Kr ?_)|refine Kh ?_)
              refine Tri.dw [.cl b8 [.int .i64 p.x,.int .i64 p.y,.int .i64 p.z] 31,.cl b15 [.int .i64 lo.x,.int .i64 lo.y,.int .i64 lo.z] 31,.cl b16 [.int .i64 hi.x,.int .i64 hi.y,.int .i64 hi.z] 31] [] (.take 0 (.take 1 (.take 2 (.take 3 (.take 4 (.take 5 (.take 6 (.take 7 (.take 8 (.take 9 (.take 10 (.take 11 (.take 12 (.take 13 (.take 14 (.take 15 (.take 16 (.take 17 (.take 18 (.take 19 (.done))))))))))))))))))))) ?_
              (repeat' first|(refine Ka ?_;first|refine Kb ?_|(refine Kc ?_;intro _))|refine Kd ?_|(refine Ki ?_;refine Kj ?_)|exact Kk|refine Kl ?_ ?_|(refine Km ?_;first|refine Kn ?_|(refine Ko ?_;intro _))|(refine Kp ?_;first|refine Kq ?_|refine Kr ?_)|refine Kh ?_)
              exact Post.round 2 (by omega) (by omega) (by (exact Sub.au)) (by (exact Ents.au))
            · (repeat' first|(refine Ka ?_;first|refine Kb ?_|(refine Kc ?_;intro _))|refine Kd ?_|(refine Ki ?_;refine Kj ?_)|exact Kk|refine Kl ?_ ?_|(refine Km ?_;first|refine Kn ?_|(refine Ko ?_;intro _))|(refine Kp ?_;first|refine Kq ?_|refine Kr ?_)|refine Kh ?_)
              refine Tri.dw [.cl b8 [.int .i64 p.x,.int .i64 p.y,.int .i64 p.z] 31,.cl b15 [.int .i64 lo.x,.int .i64 lo.y,.int .i64 lo.z] 31,.cl b16 [.int .i64 hi.x,.int .i64 hi.y,.int .i64 hi.z] 31] [] (.take 0 (.take 1 (.take 2 (.take 3 (.take 4 (.take 5 (.take 6 (.take 7 (.take 8 (.take 9 (.take 10 (.take 11 (.take 12 (.take 13 (.take 14 (.take 15 (.take 16 (.take 17 (.take 18 (.take 19 (.done))))))))))))))))))))) ?_
              (repeat' first|(refine Ka ?_;first|refine Kb ?_|(refine Kc ?_;intro _))|refine Kd ?_|(refine Ki ?_;refine Kj ?_)|exact Kk|refine Kl ?_ ?_|(refine Km ?_;first|refine Kn ?_|(refine Ko ?_;intro _))|(refine Kp ?_;first|refine Kq ?_|refine Kr ?_)|refine Kh ?_)
              exact Post.round 2 (by omega) (by omega) (by (exact Sub.au)) (by (exact Ents.au))
        · by_cases c1:p.z < lo.z
          · (repeat' first|(refine Ka ?_;first|refine Kb ?_|(refine Kc ?_;intro _))|refine Kd ?_|(refine Ki ?_;refine Kj ?_)|exact Kk|refine Kl ?_ ?_|(refine Km ?_;first|refine Kn ?_|(refine Ko ?_;intro _))|(refine Kp ?_;first|refine Kq ?_|refine Kr ?_)|refine Kh ?_)
            refine Tri.dw [.cl b8 [.int .i64 p.x,.int .i64 p.y,.int .i64 p.z] 31,.cl b15 [.int .i64 lo.x,.int .i64 lo.y,.int .i64 lo.z] 31,.cl b16 [.int .i64 hi.x,.int .i64 hi.y,.int .i64 hi.z] 31] [] (.take 0 (.take 1 (.take 2 (.take 3 (.take 4 (.take 5 (.take 6 (.take 7 (.take 8 (.take 9 (.take 10 (.take 11 (.take 12 (.take 13 (.take 14 (.take 15 (.take 16 (.take 17 (.take 18 (.take 19 (.done))))))))))))))))))))) ?_
            (repeat' first|(refine Ka ?_;first|refine Kb ?_|(refine Kc ?_;intro _))|refine Kd ?_|(refine Ki ?_;refine Kj ?_)|exact Kk|refine Kl ?_ ?_|(refine Km ?_;first|refine Kn ?_|(refine Ko ?_;intro _))|(refine Kp ?_;first|refine Kq ?_|refine Kr ?_)|refine Kh ?_)
            exact Post.round 3 (by omega) (by omega) (by (exact Sub.au)) (by (exact Ents.au))
          · by_cases c2:hi.z < p.z
            · (repeat' first|(refine Ka ?_;first|refine Kb ?_|(refine Kc ?_;intro _))|refine Kd ?_|(refine Ki ?_;refine Kj ?_)|exact Kk|refine Kl ?_ ?_|(refine Km ?_;first|refine Kn ?_|(refine Ko ?_;intro _))|(refine Kp ?_;first|refine Kq ?_|refine Kr ?_)|refine Kh ?_)
              refine Tri.dw [.cl b8 [.int .i64 p.x,.int .i64 p.y,.int .i64 p.z] 31,.cl b15 [.int .i64 lo.x,.int .i64 lo.y,.int .i64 lo.z] 31,.cl b16 [.int .i64 hi.x,.int .i64 hi.y,.int .i64 hi.z] 31] [] (.take 0 (.take 1 (.take 2 (.take 3 (.take 4 (.take 5 (.take 6 (.take 7 (.take 8 (.take 9 (.take 10 (.take 11 (.take 12 (.take 13 (.take 14 (.take 15 (.take 16 (.take 17 (.take 18 (.take 19 (.done))))))))))))))))))))) ?_
              (repeat' first|(refine Ka ?_;first|refine Kb ?_|(refine Kc ?_;intro _))|refine Kd ?_|(refine Ki ?_;refine Kj ?_)|exact Kk|refine Kl ?_ ?_|(refine Km ?_;first|refine Kn ?_|(refine Ko ?_;intro _))|(refine Kp ?_;first|refine Kq ?_|refine Kr ?_)|refine Kh ?_)
              exact Post.round 3 (by omega) (by omega) (by (exact Sub.au)) (by (exact Ents.au))
            · (repeat' first|(refine Ka ?_;first|refine Kb ?_|(refine Kc ?_;intro _))|refine Kd ?_|(refine Ki ?_;refine Kj ?_)|exact Kk|refine Kl ?_ ?_|(refine Km ?_;first|refine Kn ?_|(refine Ko ?_;intro _))|(refine Kp ?_;first|refine Kq ?_|refine Kr ?_)|refine Kh ?_)
              refine Tri.dw [.cl b8 [.int .i64 p.x,.int .i64 p.y,.int .i64 p.z] 31,.cl b15 [.int .i64 lo.x,.int .i64 lo.y,.int .i64 lo.z] 31,.cl b16 [.int .i64 hi.x,.int .i64 hi.y,.int .i64 hi.z] 31] [] (.take 0 (.take 1 (.take 2 (.take 3 (.take 4 (.take 5 (.take 6 (.take 7 (.take 8 (.take 9 (.take 10 (.take 11 (.take 12 (.take 13 (.take 14 (.take 15 (.take 16 (.take 17 (.take 18 (.take 19 (.done))))))))))))))))))))) ?_
              (repeat' first|(refine Ka ?_;first|refine Kb ?_|(refine Kc ?_;intro _))|refine Kd ?_|(refine Ki ?_;refine Kj ?_)|exact Kk|refine Kl ?_ ?_|(refine Km ?_;first|refine Kn ?_|(refine Ko ?_;intro _))|(refine Kp ?_;first|refine Kq ?_|refine Kr ?_)|refine Kh ?_)
              exact Post.round 3 (by omega) (by omega) (by (exact Sub.au)) (by (exact Ents.au))
        · (repeat' first|(refine Ka ?_;first|refine Kb ?_|(refine Kc ?_;intro _))|refine Kd ?_|(refine Ki ?_;refine Kj ?_)|exact Kk|refine Kl ?_ ?_|(refine Km ?_;first|refine Kn ?_|(refine Ko ?_;intro _))|(refine Kp ?_;first|refine Kq ?_|refine Kr ?_)|refine Kh ?_)
          (refine Post.ra ?_)
          exact ⟨_,rfl,Ents.refl _⟩
      · obtain ⟨b1,b2,b3,b4,b5,b6⟩:=hb hs0
        refine Tri.unroll 4 ?_
        iterate 3
          (repeat' first|(refine Ka ?_;first|refine Kb ?_|(refine Kc ?_;intro _))|refine Kd ?_|(refine Ki ?_;refine Kj ?_)|exact Kk|refine Kl ?_ ?_|(refine Km ?_;first|refine Kn ?_|(refine Ko ?_;intro _))|(refine Kp ?_;first|refine Kq ?_|refine Kr ?_)|refine Kh ?_)
          refine Tri.dw [.cl b8 [.int .i64 p.x,.int .i64 p.y,.int .i64 p.z] 31,.cl b15 [.int .i64 lo.x,.int .i64 lo.y,.int .i64 lo.z] 31,.cl b16 [.int .i64 hi.x,.int .i64 hi.y,.int .i64 hi.z] 31] [] (.take 0 (.take 1 (.take 2 (.take 3 (.take 4 (.take 5 (.take 6 (.take 7 (.take 8 (.take 9 (.take 10 (.take 11 (.take 12 (.take 13 (.take 14 (.take 15 (.take 16 (.take 17 (.take 18 (.take 19 (.done))))))))))))))))))))) ?_
        (repeat' first|(refine Ka ?_;first|refine Kb ?_|(refine Kc ?_;intro _))|refine Kd ?_|(refine Ki ?_;refine Kj ?_)|exact Kk|refine Kl ?_ ?_|(refine Km ?_;first|refine Kn ?_|(refine Ko ?_;intro _))|(refine Kp ?_;first|refine Kq ?_|refine Kr ?_)|refine Kh ?_)
        (refine Post.ra ?_)
        exact ⟨_,rfl,Ents.refl _⟩
end Go.Proofs.YtgapnfaakdjpaaaGreatDoor

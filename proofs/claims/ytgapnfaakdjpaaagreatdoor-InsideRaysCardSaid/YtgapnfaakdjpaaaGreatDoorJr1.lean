/- Walks: the reference of the chapter on insides: determinants, corners, limits, errors. -/
import Derived.Test.YtgapnfaakdjpaaaGreatDoorIx7
import Derived.Test.YtgapnfaakdjpaaaGreatDoorMr1
import Derived.Test.YtgapnfaakdjpaaaGreatDoorMr5
namespace Go.Proofs.YtgapnfaakdjpaaaGreatDoor
open Go Go.Sx
variable {w0:World} {As:List Ent} {pv fv:Value} {pts fcs:List V3}
theorem rdet_ok {u v w:V3} {l m n:Int} (hu:u.in l) (hv:v.in m) (hw:w.in n) (g0:0≤l) (g1:0≤m) (g2:0≤n) (hb:3 * (l * (2 * (m * n)))≤9223372036854775807) (hc:2 * (m * n)≤9223372036854775807) :
    CallsS Tryz.prog w0 80 [u.val,v.val,w.val] As fun r Bs=>r=.int .i64 (det3 u v w)∧Bs=As:=by
  have hx:=cross_in g1 g2 hv hw
  have g3:0≤m * n:=Int.mul_nonneg g1 g2
  refine CallsS.of_tri Tryz.func80 rfl Tryz.ntmps80 rfl ?_
  show Tri _ _ _ _ (env0 0 [.agg #[.int .i64 u.x,.int .i64 u.y,.int .i64 u.z],.agg #[.int .i64 v.x,.int .i64 v.y,.int .i64 v.z],.agg #[.int .i64 w.x,.int .i64 w.y,.int .i64 w.z]]) _ _
  (repeat' first|(refine Ka ?_;first|refine Kb ?_|(refine Kc ?_;intro _))|refine Kd ?_|refine Kh ?_)
  rename_i b0 b1 b2
  refine Tri.dw [.cl b0 [.int .i64 u.x,.int .i64 u.y,.int .i64 u.z] 31,.cl b1 [.int .i64 v.x,.int .i64 v.y,.int .i64 v.z] 31,.cl b2 [.int .i64 w.x,.int .i64 w.y,.int .i64 w.z] 31] [] (.take 0 (.take 1 (.take 2 (.all [(3,.all [(4,.take 5 (.done))])])))) ?_
  (repeat' first|(refine Ka ?_;first|refine Kb ?_|(refine Kc ?_;intro _))|refine Kd ?_|(refine Ki ?_;refine Kj ?_)|exact Kk|refine Kl ?_ ?_|(refine Km ?_;first|refine Kn ?_|(refine Ko ?_;intro _))|(refine Kp ?_;first|refine Kq ?_|refine Kr ?_)|refine Kh ?_)
  refine T1.callv rfl rfl rfl rfl rfl (crossR_ok (p:=v) (q:=w) hv hw g1 g2 hc) ?_
  rintro _ _ ⟨rfl,rfl⟩
  (repeat' first|(refine Ka ?_;first|refine Kb ?_|(refine Kc ?_;intro _))|refine Kd ?_|(refine Ki ?_;refine Kj ?_)|exact Kk|refine Kl ?_ ?_|(refine Km ?_;first|refine Kn ?_|(refine Ko ?_;intro _))|(refine Kp ?_;first|refine Kq ?_|refine Kr ?_)|refine Kh ?_)
  refine T1.callv rfl rfl rfl rfl rfl (dotR_ok (p:=u) (q:=v.cross w) hu hx g0 (by omega) hb) ?_
  rintro _ _ ⟨rfl,rfl⟩
  (repeat' first|(refine Ka ?_;first|refine Kb ?_|(refine Kc ?_;intro _))|refine Kd ?_|(refine Ki ?_;refine Kj ?_)|exact Kk|refine Kl ?_ ?_|(refine Km ?_;first|refine Kn ?_|(refine Ko ?_;intro _))|(refine Kp ?_;first|refine Kq ?_|refine Kr ?_)|refine Kh ?_)
  (refine Post.ra ?_)
  exact ⟨_,⟨rfl,rfl⟩,by (exact Ents.au)⟩
theorem rsign_ok {n:Int}:CallsS Tryz.prog w0 79 [.int .i64 n] As fun r Bs=>r=.int .i64 n.sign∧Bs=As:=by
  refine CallsS.of_tri Tryz.func79 rfl Tryz.ntmps79 rfl ?_
  rcases Int.lt_trichotomy n 0 with h|h|h
  · rw [Int.sign_eq_neg_one_of_neg h]
    (repeat' first|(refine Ka ?_;first|refine Kb ?_|(refine Kc ?_;intro _))|refine Kd ?_|(refine Ki ?_;refine Kj ?_)|exact Kk|refine Kl ?_ ?_|(refine Km ?_;first|refine Kn ?_|(refine Ko ?_;intro _))|(refine Kp ?_;first|refine Kq ?_|refine Kr ?_)|refine Kh ?_)
    (refine Post.ra ?_)
    exact ⟨_,⟨rfl,rfl⟩,by (exact Ents.au)⟩
  · subst h
    (repeat' first|(refine Ka ?_;first|refine Kb ?_|(refine Kc ?_;intro _))|refine Kd ?_|(refine Ki ?_;refine Kj ?_)|exact Kk|refine Kl ?_ ?_|(refine Km ?_;first|refine Kn ?_|(refine Ko ?_;intro _))|(refine Kp ?_;first|refine Kq ?_|refine Kr ?_)|refine Kh ?_)
    (refine Post.ra ?_)
    exact ⟨_,⟨rfl,rfl⟩,by (exact Ents.au)⟩
  · rw [Int.sign_eq_one_of_pos h]
    (repeat' first|(refine Ka ?_;first|refine Kb ?_|(refine Kc ?_;intro _))|refine Kd ?_|(refine Ki ?_;refine Kj ?_)|exact Kk|refine Kl ?_ ?_|(refine Km ?_;first|refine Kn ?_|(refine Ko ?_;intro _))|(refine Kp ?_;first|refine Kq ?_|refine Kr ?_)|refine Kh ?_)
    (refine Post.ra ?_)
    exact ⟨_,⟨rfl,rfl⟩,by (exact Ents.au)⟩
theorem rright_ok {p:V3}:CallsS Tryz.prog w0 52 [p.val] As fun r Bs=>r=.bool (!isFar p)∧Bs=As:=by
  refine CallsS.of_tri Tryz.func52 rfl Tryz.ntmps52 rfl ?_
  show Tri _ _ _ _ (env0 0 [.agg #[.int .i64 p.x,.int .i64 p.y,.int .i64 p.z]]) _ _
  (repeat' first|(refine Ka ?_;first|refine Kb ?_|(refine Kc ?_;intro _))|refine Kd ?_|refine Kh ?_)
  refine Tri.unroll 4 ?_
  (repeat' (first|((show TL _ _ _ _ (_::_) _ _ _;first|refine TL.fa ?_|refine TL.ua ?_|(refine TL.rba ?_;intro _)|(refine TL.rra ?_;first|rintro _ _ ⟨rfl,rfl⟩|rintro _ _ rfl)|refine TL.offa ?_|refine TL.off0a ?_|refine TL.gu ?_|fail))|(refine Stp.h ?_)|((show Tri _ _ _ (.cond _ _ _) _ _ _;first|refine Tri.cTa ?_|refine Tri.cFa ?_|refine Tri.condTa ?_|refine Tri.condFa ?_|refine Tri.condNTa ?_|refine Tri.condNFa ?_|fail))|(first|refine TL.gsplit rfl rfl (fun hgs=>?_) (fun hgs=>?_)|refine TL.gsplitN rfl rfl (fun hgs=>?_) (fun hgs=>?_)|refine TT.gsplit rfl rfl rfl (fun hgs=>?_) (fun hgs=>?_)|refine TT.gsplitN rfl rfl rfl (fun hgs=>?_) (fun hgs=>?_))|((show Tri _ _ _ (.cond _ _ _) _ _ _;first|refine Tri.condP rfl (fun hc=>?_) (fun hc=>?_)|refine Tri.condN rfl (fun hc=>?_) (fun hc=>?_)))))
  all_goals
    (refine Post.ra ?_)
    refine ⟨_,⟨?_,rfl⟩,by (exact Ents.au)⟩
    rw [Value.bool.injEq]
    simp [isFar]
    omega
def chkW (P F:List V3) (p:V3):Int:=if (flawM P F).1≠0 then 350 else if isFar p then 2 else 0
theorem rchecked_ok {p:V3} [RdIn As fv V3 cV3 fcs] [RdIn As pv V3 cV3 pts] :
    CallsS Tryz.prog w0 43 [.agg #[pv,fv],p.val] As fun r Bs=>r=.int .i64 (chkW pts fcs p)∧Bs=As:=by
  refine CallsS.of_tri Tryz.func43 rfl Tryz.ntmps43 rfl ?_
  show Tri _ _ _ _ (env0 0 [.agg #[pv,fv],.agg #[.int .i64 p.x,.int .i64 p.y,.int .i64 p.z]]) _ _
  unfold chkW
  (repeat' first|(refine Ka ?_;first|refine Kb ?_|(refine Kc ?_;intro _))|refine Kd ?_|(refine Ki ?_;refine Kj ?_)|exact Kk|refine Kl ?_ ?_|(refine Km ?_;first|refine Kn ?_|(refine Ko ?_;intro _))|(refine Kp ?_;first|refine Kq ?_|refine Kr ?_)|refine Kh ?_)
  refine TL.callv rfl rfl rfl rfl (chkR35_ok (pv:=pv) (fv:=fv) (pts:=pts) (fcs:=fcs)) ?_
  rintro _ _ ⟨rfl,rfl⟩
  by_cases hfl:(flawM pts fcs).1=0
  · rw [if_neg (fun h=>h hfl),show chkM pts fcs=0 from if_pos hfl]
    (repeat' first|(refine Ka ?_;first|refine Kb ?_|(refine Kc ?_;intro _))|refine Kd ?_|(refine Ki ?_;refine Kj ?_)|exact Kk|refine Kl ?_ ?_|(refine Km ?_;first|refine Kn ?_|(refine Ko ?_;intro _))|(refine Kp ?_;first|refine Kq ?_|refine Kr ?_)|refine Kh ?_)
    refine TL.callv rfl rfl rfl rfl (rright_ok (p:=p)) ?_
    rintro _ _ ⟨rfl,rfl⟩
    cases hfar:isFar p with
    | true =>
      rw [if_pos rfl]
      (repeat' first|(refine Ka ?_;first|refine Kb ?_|(refine Kc ?_;intro _))|refine Kd ?_|refine Kh ?_)
      (refine Post.ra ?_)
      exact ⟨_,⟨rfl,rfl⟩,by (exact Ents.au)⟩
    | false =>
      rw [if_neg (by decide)]
      (repeat' first|(refine Ka ?_;first|refine Kb ?_|(refine Kc ?_;intro _))|refine Kd ?_|refine Kh ?_)
      (refine Post.ra ?_)
      exact ⟨_,⟨rfl,rfl⟩,by (exact Ents.au)⟩
  · rw [if_pos hfl,show chkM pts fcs=350 from if_neg hfl]
    (repeat' first|(refine Ka ?_;first|refine Kb ?_|(refine Kc ?_;intro _))|refine Kd ?_|refine Kh ?_)
    (refine Post.ra ?_)
    exact ⟨_,⟨rfl,rfl⟩,by (exact Ents.au)⟩
theorem rcorners_ok {k:Nat} {f p:V3} (hf:fcs[k]?=some f) (hs:Seeable pts fcs p) [RdIn As fv V3 cV3 fcs] [RdIn As pv V3 cV3 pts] :
    CallsS Tryz.prog w0 78 [.agg #[pv,fv],.int .i64 (k:Int),p.val] As fun r Bs=>r=.tuple #[(relV pts p f.x).val,(relV pts p f.y).val,(relV pts p f.z).val]∧Bs=As:=by
  have hlF:=hs.lenF
  have hlP:=hs.lenP
  have hk:=(List.getElem?_eq_some_iff.1 hf).1
  have hfm:f∈fcs:=List.mem_of_getElem? hf
  obtain ⟨i1,i2,i3,i4,i5,i6⟩:=hs.idx f hfm
  obtain ⟨q1,q2,q3,e1,e2,e3,n1,n2,n3,r1,r2,r3⟩:=hs.pt hfm
  have np:=hs.at_
  rw [r1,r2,r3]
  clear r1 r2 r3 hfm
  obtain ⟨x,hx⟩:∃ i:Nat,f.x=(i:Int):=⟨f.x.toNat,by omega⟩
  obtain ⟨y,hy'⟩:∃ i:Nat,f.y=(i:Int):=⟨f.y.toNat,by omega⟩
  obtain ⟨z,hz⟩:∃ i:Nat,f.z=(i:Int):=⟨f.z.toNat,by omega⟩
  obtain ⟨fx,fy,fz⟩:=f
  simp only at hx hy' hz i1 i2 i3 i4 i5 i6 e1 e2 e3
  subst hx hy' hz
  rw [Int.toNat_natCast] at e1 e2 e3
  refine CallsS.of_tri Tryz.func78 rfl Tryz.ntmps78 rfl ?_
  show Tri _ _ _ _ (env0 0 [.agg #[pv,fv],.int .i64 (k:Int),.agg #[.int .i64 p.x,.int .i64 p.y,.int .i64 p.z]]) _ _
  (repeat' first|(refine Ka ?_;first|refine Kb ?_|(refine Kc ?_;intro _))|refine Kd ?_|refine Kh ?_)
  rename_i b3 b5 b6 b7 b8 b9
  refine Tri.dw (.cl b3 [pv,fv] 34::.cl b9 [.int .i64 (x:Int),.int .i64 (y:Int),.int .i64 (z:Int)] 31::.cl b5 [.int .i64 p.x,.int .i64 p.y,.int .i64 p.z] 31::As) [] (.take 0 (.take 1 (.take 2 (.take 3 (.take 4 (.take 5 (.take 6 (.take 8 (.take 9 (.take 10 (.take 11 (.take 12 (.take 13 (.take 14 (.take 16 (.take 17 (.take 18 (.take 19 (.take 20 (.take 21 (.take 22 (.all [(7,.all [(15,.all [(23,.all [(24,.all [(25,.all [(26,.done)])])])])])])))))))))))))))))))))) ?_
  (repeat' first|(refine Ka ?_;first|refine Kb ?_|(refine Kc ?_;intro _))|refine Kd ?_|(refine Ki ?_;refine Kj ?_)|exact Kk|refine Kl ?_ ?_|(refine Km ?_;first|refine Kn ?_|(refine Ko ?_;intro _))|(refine Kp ?_;first|refine Kq ?_|refine Kr ?_)|refine Kh ?_)
  refine T1.callv rfl rfl rfl rfl rfl (minusV35_ok (p:=q1) (q:=p) n1 np (by decide)) ?_
  rintro _ _ ⟨rfl,rfl⟩
  (repeat' first|(refine Ka ?_;first|refine Kb ?_|(refine Kc ?_;intro _))|refine Kd ?_|(refine Ki ?_;refine Kj ?_)|exact Kk|refine Kl ?_ ?_|(refine Km ?_;first|refine Kn ?_|(refine Ko ?_;intro _))|(refine Kp ?_;first|refine Kq ?_|refine Kr ?_)|refine Kh ?_)
  refine T1.callv rfl rfl rfl rfl rfl (minusV35_ok (p:=q2) (q:=p) n2 np (by decide)) ?_
  rintro _ _ ⟨rfl,rfl⟩
  (repeat' first|(refine Ka ?_;first|refine Kb ?_|(refine Kc ?_;intro _))|refine Kd ?_|(refine Ki ?_;refine Kj ?_)|exact Kk|refine Kl ?_ ?_|(refine Km ?_;first|refine Kn ?_|(refine Ko ?_;intro _))|(refine Kp ?_;first|refine Kq ?_|refine Kr ?_)|refine Kh ?_)
  refine T1.callv rfl rfl rfl rfl rfl (minusV35_ok (p:=q3) (q:=p) n3 np (by decide)) ?_
  rintro _ _ ⟨rfl,rfl⟩
  (repeat' first|(refine Ka ?_;first|refine Kb ?_|(refine Kc ?_;intro _))|refine Kd ?_|(refine Ki ?_;refine Kj ?_)|exact Kk|refine Kl ?_ ?_|(refine Km ?_;first|refine Kn ?_|(refine Ko ?_;intro _))|(refine Kp ?_;first|refine Kq ?_|refine Kr ?_)|refine Kh ?_)
  (refine Post.ra ?_)
  exact ⟨_,⟨rfl,rfl⟩,by (exact Ents.au)⟩
end Go.Proofs.YtgapnfaakdjpaaaGreatDoor
namespace Go.Sx
open Go
theorem axR_cases (n:V3):axR n=0∨axR n=1∨axR n=2:=by
  unfold axR
  (repeat' split)<;>simp
theorem Good.right {P F:List V3} (hg:Good P F) {f:V3} (hf:f∈F):isWrong P.length f=false:=List.findIdx?_eq_none_iff.1 hg.wrong f hf
end Go.Sx
namespace Go.Proofs.YtgapnfaakdjpaaaGreatDoor
open Go Go.Sx
variable {w0:World} {As:List Ent} {pv fv:Value} {pts fcs:List V3}
theorem raxis_ok {k:Nat} {f:V3} (hf:fcs[k]?=some f) (hw:isWrong pts.length f=false) (hfar:∀ p∈pts,p.in 200000) [RdIn As fv V3 cV3 fcs] [RdIn As pv V3 cV3 pts] :
    CallsS Tryz.prog w0 91 [.agg #[pv,fv],.int .i64 (k:Int)] As fun r Bs=>r=.int .i64 ((axR (normal pts f):Nat):Int)∧Bs=As:=by
  refine CallsS.of_tri Tryz.func91 rfl Tryz.ntmps91 rfl ?_
  (repeat' first|(refine Ka ?_;first|refine Kb ?_|(refine Kc ?_;intro _))|refine Kd ?_|refine Kh ?_)
  refine TL.callv rfl rfl rfl rfl (normalR_ok (n:=k) hf hw hfar) ?_
  rintro _ _ ⟨rfl,rfl⟩
  generalize normal pts f=n
  show TL _ _ _ _ _ ((_,.agg #[.int .i64 n.x,.int .i64 n.y,.int .i64 n.z])::_) _ _
  (repeat' first|(refine Ka ?_;first|refine Kb ?_|(refine Kc ?_;intro _))|refine Kd ?_|refine Kh ?_)
  refine Tri.unroll 4 ?_
  (repeat' (first|((show TL _ _ _ _ (_::_) _ _ _;first|refine TL.fa ?_|refine TL.ua ?_|(refine TL.rba ?_;intro _)|(refine TL.rra ?_;first|rintro _ _ ⟨rfl,rfl⟩|rintro _ _ rfl)|refine TL.offa ?_|refine TL.off0a ?_|refine TL.gu ?_|fail))|(refine Stp.h ?_)|((show Tri _ _ _ (.cond _ _ _) _ _ _;first|refine Tri.cTa ?_|refine Tri.cFa ?_|refine Tri.condTa ?_|refine Tri.condFa ?_|refine Tri.condNTa ?_|refine Tri.condNFa ?_|fail))|(first|refine TL.gsplit rfl rfl (fun hgs=>?_) (fun hgs=>?_)|refine TL.gsplitN rfl rfl (fun hgs=>?_) (fun hgs=>?_)|refine TT.gsplit rfl rfl rfl (fun hgs=>?_) (fun hgs=>?_)|refine TT.gsplitN rfl rfl rfl (fun hgs=>?_) (fun hgs=>?_))|((show Tri _ _ _ (.cond _ _ _) _ _ _;first|refine Tri.condP rfl (fun hc=>?_) (fun hc=>?_)|refine Tri.condN rfl (fun hc=>?_) (fun hc=>?_)))))
  all_goals
    (refine Post.ra ?_)
    refine ⟨_,⟨?_,rfl⟩,by (exact Ents.au)⟩
    rw [Value.int.injEq]
    refine ⟨rfl,?_⟩
    unfold axR
    (repeat' split)<;>first|rfl|omega
end Go.Proofs.YtgapnfaakdjpaaaGreatDoor
namespace Go.Sx
open Go
structure PlaceA where
  a0:Int
  a1:Int
  a2:Int
  w0:Int
  w1:Int
  w2:Int
  o0:Int
  o1:Int
  o2:Int
def PlaceA.ok (x:PlaceA):Prop:=((0≤x.a0∧x.a0≤255)∧(0≤x.a1∧x.a1≤255)∧(0≤x.a2∧x.a2≤255))∧((0≤x.w0∧x.w0≤255)∧(0≤x.w1∧x.w1≤255)∧(0≤x.w2∧x.w2≤255))∧((-32768≤x.o0∧x.o0≤32767)∧(-32768≤x.o1∧x.o1≤32767)∧(-32768≤x.o2∧x.o2≤32767))
def PlaceA.cells (x:PlaceA):List Value:=[.int .u8 x.a0,.int .u8 x.a1,.int .u8 x.a2,.int .u8 x.w0,.int .u8 x.w1,.int .u8 x.w2,.int .i16 x.o0,.int .i16 x.o1,.int .i16 x.o2]
def clampI (v:Int):Int:=if -200000 < (if v < 200000 then v else 200000) then (if v < 200000 then v else 200000) else -200000
theorem clampV (v:Int):(if -200000 < (if v < 200000 then v else 200000) then (if v < 200000 then v else 200000) else -200000)=clampI v:=rfl
theorem clamp_in {v c:Int} (h:clampI v=c):-200000≤c∧c≤200000:=by
  subst h
  unfold clampI
  (repeat' split)<;>omega
end Go.Sx
namespace Go.Proofs.YtgapnfaakdjpaaaGreatDoor
open Go Go.Sx
variable {w0:World} {As:List Ent} {pv fv:Value} {pts fcs:List V3}
theorem point_ok {x:PlaceA} (hx:x.ok) (hg:Sx.Good pts fcs) [RdIn As pv V3 cV3 pts] :
    CallsS Tryz.prog w0 12 [.agg #[.int .u8 x.a0,.int .u8 x.a1,.int .u8 x.a2,.int .u8 x.w0,.int .u8 x.w1,.int .u8 x.w2,.int .i16 x.o0,.int .i16 x.o1,.int .i16 x.o2],.agg #[pv,fv]] As
      fun r Bs=>∃ p:V3,isFar p=false∧r=p.val∧Bs=As:=by
  refine CallsS.of_tri Tryz.func12 rfl Tryz.ntmps12 rfl ?_
  have hl:=hg.p300
  have hl4:=hg.p4
  have hfar:∀ q∈pts,q.in 200000:=fun q hq=>far_in (List.findIdx?_eq_none_iff.1 hg.far q hq)
  obtain ⟨⟨a0,a1,a2⟩,⟨u0,u1,u2⟩,⟨o0,o1,o2⟩⟩:=hx
  (repeat' first|(refine Ka ?_;first|refine Kb ?_|(refine Kc ?_;intro _))|refine Kd ?_|refine Kh ?_)
  rename_i b2 b3 b4 b5
  refine Tri.loop (ι:=Nat × V3 × Int) (fun s=>s.1≤3∧s.2.1.in (1400000 * (s.1:Int))∧0≤s.2.2∧s.2.2≤7 * (s.1:Int)) (fun s=>3 - s.1)
    (fun s=>[(2,.pointer (some ⟨b2,0,none⟩)),(3,.pointer (some ⟨b3,0,none⟩)),(4,.pointer (some ⟨b4,0,none⟩)),(5,.pointer (some ⟨b5,0,none⟩)),(6,.int .i64 s.2.2),(7,.int .i64 (s.1:Int))])
    (fun s=>.cl b5 [.int .i64 s.2.1.x,.int .i64 s.2.1.y,.int .i64 s.2.1.z] 31::.cl b4 [.int .i64 0,.int .i64 0,.int .i64 0] 31::.cl b3 [pv,fv] 34::.cl b2 [.int .u8 x.a0,.int .u8 x.a1,.int .u8 x.a2,.int .u8 x.w0,.int .u8 x.w1,.int .u8 x.w2,.int .i16 x.o0,.int .i16 x.o1,.int .i16 x.o2] 29::As) (0,V3.zero,0) ⟨by decide,by simp [V3.zero,V3.in],by decide,by decide⟩ (by (exact Sub.au)) (by show Ents _ (.cl b5 [.int .i64 0,.int .i64 0,.int .i64 0] _::_);(exact Ents.au)) ?_
  rintro ⟨i,s,n⟩ ⟨hi,hs,hn0,hn1⟩
  simp only at hi hs hn0 hn1
  show Tri _ _ _ _ [(2,_),(3,_),(4,_),(5,_),(6,.int .i64 n),(7,.int .i64 (i:Int))] (.cl b5 [.int .i64 s.x,.int .i64 s.y,.int .i64 s.z] _::_) _
  obtain ⟨s1,s2,s3,s4,s5,s6⟩:=hs
  rcases (show i=0∨i=1∨i=2∨i=3 by omega) with rfl|rfl|rfl|rfl
  · have hW:0≤x.w0 % 8∧x.w0 % 8≤7:=by omega
    have hj0:=Int.emod_nonneg x.a0 (show (pts.length:Int)≠0 by omega)
    have hj1:=Int.emod_lt_of_pos x.a0 (show (0:Int) < pts.length by omega)
    obtain ⟨j,hj⟩:∃ j:Nat,x.a0 % (pts.length:Int)=(j:Int):=⟨(x.a0 % (pts.length:Int)).toNat,(Int.toNat_of_nonneg hj0).symm⟩
    rw [hj] at hj0 hj1
    obtain ⟨q,hq⟩:∃ q,pts[j]?=some q:=⟨_,List.getElem?_eq_getElem (by omega)⟩
    obtain ⟨q1,q2,q3,q4,q5,q6⟩:=hfar q (List.mem_of_getElem? hq)
    (repeat' first|(refine Ka ?_;first|refine Kb ?_|(refine Kc ?_;intro _))|refine Kd ?_|refine Kh ?_)
    generalize x.w0 % 8=W at *
    have m1:=mul_in (m:=7) (n:=200000) (by decide) (by decide) (show -7≤W by omega) hW.2 q1 q2
    have m2:=mul_in (m:=7) (n:=200000) (by decide) (by decide) (show -7≤W by omega) hW.2 q3 q4
    have m3:=mul_in (m:=7) (n:=200000) (by decide) (by decide) (show -7≤W by omega) hW.2 q5 q6
    refine Tri.dw (.cl b3 [pv,fv] 34::.cl b2 [.int .u8 x.a0,.int .u8 x.a1,.int .u8 x.a2,.int .u8 x.w0,.int .u8 x.w1,.int .u8 x.w2,.int .i16 x.o0,.int .i16 x.o1,.int .i16 x.o2] 29::As) [] (.take 0 (.take 1 (.take 2 (.take 3 (.take 4 (.take 5 (.take 6 (.take 7 (.take 8 (.take 9 (.take 10 (.take 11 (.take 12 (.all [(13,.all [(14,.done)])])))))))))))))) ?_
    (repeat' first|(refine Ka ?_;first|refine Kb ?_|(refine Kc ?_;intro _))|refine Kd ?_|(refine Ki ?_;refine Kj ?_)|exact Kk|refine Kl ?_ ?_|(refine Km ?_;first|refine Kn ?_|(refine Ko ?_;intro _))|(refine Kp ?_;first|refine Kq ?_|refine Kr ?_)|refine Kh ?_)
    rw [hj]
    (repeat' first|(refine Ka ?_;first|refine Kb ?_|(refine Kc ?_;intro _))|refine Kd ?_|(refine Ki ?_;refine Kj ?_)|exact Kk|refine Kl ?_ ?_|(refine Km ?_;first|refine Kn ?_|(refine Ko ?_;intro _))|(refine Kp ?_;first|refine Kq ?_|refine Kr ?_)|refine Kh ?_)
    refine Tri.unroll 4 ?_
    iterate 3
      (repeat' first|(refine Ka ?_;first|refine Kb ?_|(refine Kc ?_;intro _))|refine Kd ?_|(refine Ki ?_;refine Kj ?_)|exact Kk|refine Kl ?_ ?_|(refine Km ?_;first|refine Kn ?_|(refine Ko ?_;intro _))|(refine Kp ?_;first|refine Kq ?_|refine Kr ?_)|refine Kh ?_)
      refine Tri.dr (.take 0 (.take 1 (.take 2 (.take 3 (.take 4 (.take 5 (.take 6 (.take 7 (.take 8 (.take 9 (.take 10 (.all [(11,.done)])))))))))))) ?_
    (repeat' first|(refine Ka ?_;first|refine Kb ?_|(refine Kc ?_;intro _))|refine Kd ?_|(refine Ki ?_;refine Kj ?_)|exact Kk|refine Kl ?_ ?_|(refine Km ?_;first|refine Kn ?_|(refine Ko ?_;intro _))|(refine Kp ?_;first|refine Kq ?_|refine Kr ?_)|refine Kh ?_)
    refine Post.round (1,⟨s.x+W * q.x,s.y+W * q.y,s.z+W * q.z⟩,n+W) ⟨by simp only;omega,⟨by simp only;omega,by simp only;omega,by simp only;omega,by simp only;omega,by simp only;omega,by simp only;omega⟩,by simp only;omega,by simp only;omega⟩ (by simp only;omega) (by (exact Sub.au)) (by (exact Ents.au))
  · have hW:0≤x.w1 % 8∧x.w1 % 8≤7:=by omega
    have hj0:=Int.emod_nonneg x.a1 (show (pts.length:Int)≠0 by omega)
    have hj1:=Int.emod_lt_of_pos x.a1 (show (0:Int) < pts.length by omega)
    obtain ⟨j,hj⟩:∃ j:Nat,x.a1 % (pts.length:Int)=(j:Int):=⟨(x.a1 % (pts.length:Int)).toNat,(Int.toNat_of_nonneg hj0).symm⟩
    rw [hj] at hj0 hj1
    obtain ⟨q,hq⟩:∃ q,pts[j]?=some q:=⟨_,List.getElem?_eq_getElem (by omega)⟩
    obtain ⟨q1,q2,q3,q4,q5,q6⟩:=hfar q (List.mem_of_getElem? hq)
    (repeat' first|(refine Ka ?_;first|refine Kb ?_|(refine Kc ?_;intro _))|refine Kd ?_|(refine Ki ?_;refine Kj ?_)|exact Kk|refine Kl ?_ ?_|(refine Km ?_;first|refine Kn ?_|(refine Ko ?_;intro _))|(refine Kp ?_;first|refine Kq ?_|refine Kr ?_)|refine Kh ?_)
    generalize x.w1 % 8=W at *
    have m1:=mul_in (m:=7) (n:=200000) (by decide) (by decide) (show -7≤W by omega) hW.2 q1 q2
    have m2:=mul_in (m:=7) (n:=200000) (by decide) (by decide) (show -7≤W by omega) hW.2 q3 q4
    have m3:=mul_in (m:=7) (n:=200000) (by decide) (by decide) (show -7≤W by omega) hW.2 q5 q6
    refine Tri.dw (.cl b3 [pv,fv] 34::.cl b2 [.int .u8 x.a0,.int .u8 x.a1,.int .u8 x.a2,.int .u8 x.w0,.int .u8 x.w1,.int .u8 x.w2,.int .i16 x.o0,.int .i16 x.o1,.int .i16 x.o2] 29::As) [] (.take 0 (.take 1 (.take 2 (.take 3 (.take 4 (.take 5 (.take 6 (.take 7 (.take 8 (.take 9 (.take 10 (.take 11 (.take 12 (.all [(13,.all [(14,.done)])])))))))))))))) ?_
    (repeat' first|(refine Ka ?_;first|refine Kb ?_|(refine Kc ?_;intro _))|refine Kd ?_|(refine Ki ?_;refine Kj ?_)|exact Kk|refine Kl ?_ ?_|(refine Km ?_;first|refine Kn ?_|(refine Ko ?_;intro _))|(refine Kp ?_;first|refine Kq ?_|refine Kr ?_)|refine Kh ?_)
    rw [hj]
    (repeat' first|(refine Ka ?_;first|refine Kb ?_|(refine Kc ?_;intro _))|refine Kd ?_|(refine Ki ?_;refine Kj ?_)|exact Kk|refine Kl ?_ ?_|(refine Km ?_;first|refine Kn ?_|(refine Ko ?_;intro _))|(refine Kp ?_;first|refine Kq ?_|refine Kr ?_)|refine Kh ?_)
    refine Tri.unroll 4 ?_
    iterate 3
      (repeat' first|(refine Ka ?_;first|refine Kb ?_|(refine Kc ?_;intro _))|refine Kd ?_|(refine Ki ?_;refine Kj ?_)|exact Kk|refine Kl ?_ ?_|(refine Km ?_;first|refine Kn ?_|(refine Ko ?_;intro _))|(refine Kp ?_;first|refine Kq ?_|refine Kr ?_)|refine Kh ?_)
      refine Tri.dr (.take 0 (.take 1 (.take 2 (.take 3 (.take 4 (.take 5 (.take 6 (.take 7 (.take 8 (.take 9 (.take 10 (.all [(11,.done)])))))))))))) ?_
    (repeat' first|(refine Ka ?_;first|refine Kb ?_|(refine Kc ?_;intro _))|refine Kd ?_|(refine Ki ?_;refine Kj ?_)|exact Kk|refine Kl ?_ ?_|(refine Km ?_;first|refine Kn ?_|(refine Ko ?_;intro _))|(refine Kp ?_;first|refine Kq ?_|refine Kr ?_)|refine Kh ?_)
    refine Post.round (2,⟨s.x+W * q.x,s.y+W * q.y,s.z+W * q.z⟩,n+W) ⟨by simp only;omega,⟨by simp only;omega,by simp only;omega,by simp only;omega,by simp only;omega,by simp only;omega,by simp only;omega⟩,by simp only;omega,by simp only;omega⟩ (by simp only;omega) (by (exact Sub.au)) (by (exact Ents.au))
  · have hW:0≤x.w2 % 8∧x.w2 % 8≤7:=by omega
    have hj0:=Int.emod_nonneg x.a2 (show (pts.length:Int)≠0 by omega)
    have hj1:=Int.emod_lt_of_pos x.a2 (show (0:Int) < pts.length by omega)
    obtain ⟨j,hj⟩:∃ j:Nat,x.a2 % (pts.length:Int)=(j:Int):=⟨(x.a2 % (pts.length:Int)).toNat,(Int.toNat_of_nonneg hj0).symm⟩
    rw [hj] at hj0 hj1
    obtain ⟨q,hq⟩:∃ q,pts[j]?=some q:=⟨_,List.getElem?_eq_getElem (by omega)⟩
    obtain ⟨q1,q2,q3,q4,q5,q6⟩:=hfar q (List.mem_of_getElem? hq)
    (repeat' first|(refine Ka ?_;first|refine Kb ?_|(refine Kc ?_;intro _))|refine Kd ?_|(refine Ki ?_;refine Kj ?_)|exact Kk|refine Kl ?_ ?_|(refine Km ?_;first|refine Kn ?_|(refine Ko ?_;intro _))|(refine Kp ?_;first|refine Kq ?_|refine Kr ?_)|refine Kh ?_)
    generalize x.w2 % 8=W at *
    have m1:=mul_in (m:=7) (n:=200000) (by decide) (by decide) (show -7≤W by omega) hW.2 q1 q2
    have m2:=mul_in (m:=7) (n:=200000) (by decide) (by decide) (show -7≤W by omega) hW.2 q3 q4
    have m3:=mul_in (m:=7) (n:=200000) (by decide) (by decide) (show -7≤W by omega) hW.2 q5 q6
    refine Tri.dw (.cl b3 [pv,fv] 34::.cl b2 [.int .u8 x.a0,.int .u8 x.a1,.int .u8 x.a2,.int .u8 x.w0,.int .u8 x.w1,.int .u8 x.w2,.int .i16 x.o0,.int .i16 x.o1,.int .i16 x.o2] 29::As) [] (.take 0 (.take 1 (.take 2 (.take 3 (.take 4 (.take 5 (.take 6 (.take 7 (.take 8 (.take 9 (.take 10 (.take 11 (.take 12 (.all [(13,.all [(14,.done)])])))))))))))))) ?_
    (repeat' first|(refine Ka ?_;first|refine Kb ?_|(refine Kc ?_;intro _))|refine Kd ?_|(refine Ki ?_;refine Kj ?_)|exact Kk|refine Kl ?_ ?_|(refine Km ?_;first|refine Kn ?_|(refine Ko ?_;intro _))|(refine Kp ?_;first|refine Kq ?_|refine Kr ?_)|refine Kh ?_)
    rw [hj]
    (repeat' first|(refine Ka ?_;first|refine Kb ?_|(refine Kc ?_;intro _))|refine Kd ?_|(refine Ki ?_;refine Kj ?_)|exact Kk|refine Kl ?_ ?_|(refine Km ?_;first|refine Kn ?_|(refine Ko ?_;intro _))|(refine Kp ?_;first|refine Kq ?_|refine Kr ?_)|refine Kh ?_)
    refine Tri.unroll 4 ?_
    iterate 3
      (repeat' first|(refine Ka ?_;first|refine Kb ?_|(refine Kc ?_;intro _))|refine Kd ?_|(refine Ki ?_;refine Kj ?_)|exact Kk|refine Kl ?_ ?_|(refine Km ?_;first|refine Kn ?_|(refine Ko ?_;intro _))|(refine Kp ?_;first|refine Kq ?_|refine Kr ?_)|refine Kh ?_)
      refine Tri.dr (.take 0 (.take 1 (.take 2 (.take 3 (.take 4 (.take 5 (.take 6 (.take 7 (.take 8 (.take 9 (.take 10 (.all [(11,.done)])))))))))))) ?_
    (repeat' first|(refine Ka ?_;first|refine Kb ?_|(refine Kc ?_;intro _))|refine Kd ?_|(refine Ki ?_;refine Kj ?_)|exact Kk|refine Kl ?_ ?_|(refine Km ?_;first|refine Kn ?_|(refine Ko ?_;intro _))|(refine Kp ?_;first|refine Kq ?_|refine Kr ?_)|refine Kh ?_)
    refine Post.round (3,⟨s.x+W * q.x,s.y+W * q.y,s.z+W * q.z⟩,n+W) ⟨by simp only;omega,⟨by simp only;omega,by simp only;omega,by simp only;omega,by simp only;omega,by simp only;omega,by simp only;omega⟩,by simp only;omega,by simp only;omega⟩ (by simp only;omega) (by (exact Sub.au)) (by (exact Ents.au))
  · (repeat' first|(refine Ka ?_;first|refine Kb ?_|(refine Kc ?_;intro _))|refine Kd ?_|(refine Ki ?_;refine Kj ?_)|exact Kk|refine Kl ?_ ?_|(refine Km ?_;first|refine Kn ?_|(refine Ko ?_;intro _))|(refine Kp ?_;first|refine Kq ?_|refine Kr ?_)|refine Kh ?_)
    have key:∀ v:Int,-4200000≤v∧v≤4200000→-4200000≤v.tdiv n∧v.tdiv n≤4200000:=fun v hv=>by
      have:=Int.natAbs_tdiv_le_natAbs v n
      omega
    have k1:=key s.x (by omega)
    have k2:=key s.y (by omega)
    have k3:=key s.z (by omega)
    clear key hfar hg a0 a1 a2 u0 u1 u2 hl hl4 hi
    by_cases hn0:0 < n
    · (repeat' first|(refine Ka ?_;first|refine Kb ?_|(refine Kc ?_;intro _))|refine Kd ?_|(refine Ki ?_;refine Kj ?_)|exact Kk|refine Kl ?_ ?_|(refine Km ?_;first|refine Kn ?_|(refine Ko ?_;intro _))|(refine Kp ?_;first|refine Kq ?_|refine Kr ?_)|refine Kh ?_)
      refine Tri.unroll 4 ?_
      (repeat' first|(refine Ka ?_;first|refine Kb ?_|(refine Kc ?_;intro _))|refine Kd ?_|(refine Ki ?_;refine Kj ?_)|exact Kk|refine Kl ?_ ?_|(refine Km ?_;first|refine Kn ?_|(refine Ko ?_;intro _))|(refine Kp ?_;first|refine Kq ?_|refine Kr ?_)|refine Kh ?_)
      refine TL.f rfl rfl (ExF.quo rfl rfl (by omega)) ?_
      rw [wrap_of_IR (show IR .i64 (s.x.tdiv n) from ⟨by show -9223372036854775808≤_;omega,by show _≤9223372036854775807;omega⟩)]
      (repeat' first|(refine Ka ?_;first|refine Kb ?_|(refine Kc ?_;intro _))|refine Kd ?_|(refine Ki ?_;refine Kj ?_)|exact Kk|refine Kl ?_ ?_|(refine Km ?_;first|refine Kn ?_|(refine Ko ?_;intro _))|(refine Kp ?_;first|refine Kq ?_|refine Kr ?_)|refine Kh ?_)
      refine Tri.dr (.take 0 (.take 1 (.take 2 (.take 3 (.take 4 (.take 5 (.take 6 (.take 7 (.take 8 (.take 9 (.take 10 (.take 11 (.take 12 (.all [(13,.done)])))))))))))))) ?_
      (repeat' first|(refine Ka ?_;first|refine Kb ?_|(refine Kc ?_;intro _))|refine Kd ?_|(refine Ki ?_;refine Kj ?_)|exact Kk|refine Kl ?_ ?_|(refine Km ?_;first|refine Kn ?_|(refine Ko ?_;intro _))|(refine Kp ?_;first|refine Kq ?_|refine Kr ?_)|refine Kh ?_)
      rw [clampV (s.x.tdiv n+x.o0)]
      generalize hv0:clampI (s.x.tdiv n+x.o0)=v0
      (repeat' first|(refine Ka ?_;first|refine Kb ?_|(refine Kc ?_;intro _))|refine Kd ?_|(refine Ki ?_;refine Kj ?_)|exact Kk|refine Kl ?_ ?_|(refine Km ?_;first|refine Kn ?_|(refine Ko ?_;intro _))|(refine Kp ?_;first|refine Kq ?_|refine Kr ?_)|refine Kh ?_)
      refine TL.f rfl rfl (ExF.quo rfl rfl (by omega)) ?_
      rw [wrap_of_IR (show IR .i64 (s.y.tdiv n) from ⟨by show -9223372036854775808≤_;omega,by show _≤9223372036854775807;omega⟩)]
      (repeat' first|(refine Ka ?_;first|refine Kb ?_|(refine Kc ?_;intro _))|refine Kd ?_|(refine Ki ?_;refine Kj ?_)|exact Kk|refine Kl ?_ ?_|(refine Km ?_;first|refine Kn ?_|(refine Ko ?_;intro _))|(refine Kp ?_;first|refine Kq ?_|refine Kr ?_)|refine Kh ?_)
      refine Tri.dr (.take 0 (.take 1 (.take 2 (.take 3 (.take 4 (.take 5 (.take 6 (.take 7 (.take 8 (.take 9 (.take 10 (.take 11 (.take 12 (.all [(13,.done)])))))))))))))) ?_
      (repeat' first|(refine Ka ?_;first|refine Kb ?_|(refine Kc ?_;intro _))|refine Kd ?_|(refine Ki ?_;refine Kj ?_)|exact Kk|refine Kl ?_ ?_|(refine Km ?_;first|refine Kn ?_|(refine Ko ?_;intro _))|(refine Kp ?_;first|refine Kq ?_|refine Kr ?_)|refine Kh ?_)
      rw [clampV (s.y.tdiv n+x.o1)]
      generalize hv1:clampI (s.y.tdiv n+x.o1)=v1
      (repeat' first|(refine Ka ?_;first|refine Kb ?_|(refine Kc ?_;intro _))|refine Kd ?_|(refine Ki ?_;refine Kj ?_)|exact Kk|refine Kl ?_ ?_|(refine Km ?_;first|refine Kn ?_|(refine Ko ?_;intro _))|(refine Kp ?_;first|refine Kq ?_|refine Kr ?_)|refine Kh ?_)
      refine TL.f rfl rfl (ExF.quo rfl rfl (by omega)) ?_
      rw [wrap_of_IR (show IR .i64 (s.z.tdiv n) from ⟨by show -9223372036854775808≤_;omega,by show _≤9223372036854775807;omega⟩)]
      (repeat' first|(refine Ka ?_;first|refine Kb ?_|(refine Kc ?_;intro _))|refine Kd ?_|(refine Ki ?_;refine Kj ?_)|exact Kk|refine Kl ?_ ?_|(refine Km ?_;first|refine Kn ?_|(refine Ko ?_;intro _))|(refine Kp ?_;first|refine Kq ?_|refine Kr ?_)|refine Kh ?_)
      refine Tri.dr (.take 0 (.take 1 (.take 2 (.take 3 (.take 4 (.take 5 (.take 6 (.take 7 (.take 8 (.take 9 (.take 10 (.take 11 (.take 12 (.all [(13,.done)])))))))))))))) ?_
      (repeat' first|(refine Ka ?_;first|refine Kb ?_|(refine Kc ?_;intro _))|refine Kd ?_|(refine Ki ?_;refine Kj ?_)|exact Kk|refine Kl ?_ ?_|(refine Km ?_;first|refine Kn ?_|(refine Ko ?_;intro _))|(refine Kp ?_;first|refine Kq ?_|refine Kr ?_)|refine Kh ?_)
      rw [clampV (s.z.tdiv n+x.o2)]
      generalize hv2:clampI (s.z.tdiv n+x.o2)=v2
      (repeat' first|(refine Ka ?_;first|refine Kb ?_|(refine Kc ?_;intro _))|refine Kd ?_|(refine Ki ?_;refine Kj ?_)|exact Kk|refine Kl ?_ ?_|(refine Km ?_;first|refine Kn ?_|(refine Ko ?_;intro _))|(refine Kp ?_;first|refine Kq ?_|refine Kr ?_)|refine Kh ?_)
      (refine Post.ra ?_)
      refine ⟨_,⟨⟨v0,v1,v2⟩,?_,rfl,rfl⟩,by (exact Ents.au)⟩
      rw [isFar_no]
      have w0:=clamp_in hv0
      have w1:=clamp_in hv1
      have w2:=clamp_in hv2
      simp only
      omega
    · (repeat' first|(refine Ka ?_;first|refine Kb ?_|(refine Kc ?_;intro _))|refine Kd ?_|(refine Ki ?_;refine Kj ?_)|exact Kk|refine Kl ?_ ?_|(refine Km ?_;first|refine Kn ?_|(refine Ko ?_;intro _))|(refine Kp ?_;first|refine Kq ?_|refine Kr ?_)|refine Kh ?_)
      refine Tri.unroll 4 ?_
      (repeat' first|(refine Ka ?_;first|refine Kb ?_|(refine Kc ?_;intro _))|refine Kd ?_|(refine Ki ?_;refine Kj ?_)|exact Kk|refine Kl ?_ ?_|(refine Km ?_;first|refine Kn ?_|(refine Ko ?_;intro _))|(refine Kp ?_;first|refine Kq ?_|refine Kr ?_)|refine Kh ?_)
      refine Tri.dr (.take 0 (.take 1 (.take 2 (.take 3 (.take 4 (.take 5 (.take 6 (.take 7 (.take 8 (.take 9 (.take 10 (.take 11 (.take 12 (.all [(13,.done)])))))))))))))) ?_
      (repeat' first|(refine Ka ?_;first|refine Kb ?_|(refine Kc ?_;intro _))|refine Kd ?_|(refine Ki ?_;refine Kj ?_)|exact Kk|refine Kl ?_ ?_|(refine Km ?_;first|refine Kn ?_|(refine Ko ?_;intro _))|(refine Kp ?_;first|refine Kq ?_|refine Kr ?_)|refine Kh ?_)
      rw [clampV (s.x+x.o0)]
      generalize hv0:clampI (s.x+x.o0)=v0
      (repeat' first|(refine Ka ?_;first|refine Kb ?_|(refine Kc ?_;intro _))|refine Kd ?_|(refine Ki ?_;refine Kj ?_)|exact Kk|refine Kl ?_ ?_|(refine Km ?_;first|refine Kn ?_|(refine Ko ?_;intro _))|(refine Kp ?_;first|refine Kq ?_|refine Kr ?_)|refine Kh ?_)
      refine Tri.dr (.take 0 (.take 1 (.take 2 (.take 3 (.take 4 (.take 5 (.take 6 (.take 7 (.take 8 (.take 9 (.take 10 (.take 11 (.take 12 (.all [(13,.done)])))))))))))))) ?_
      (repeat' first|(refine Ka ?_;first|refine Kb ?_|(refine Kc ?_;intro _))|refine Kd ?_|(refine Ki ?_;refine Kj ?_)|exact Kk|refine Kl ?_ ?_|(refine Km ?_;first|refine Kn ?_|(refine Ko ?_;intro _))|(refine Kp ?_;first|refine Kq ?_|refine Kr ?_)|refine Kh ?_)
      rw [clampV (s.y+x.o1)]
      generalize hv1:clampI (s.y+x.o1)=v1
      (repeat' first|(refine Ka ?_;first|refine Kb ?_|(refine Kc ?_;intro _))|refine Kd ?_|(refine Ki ?_;refine Kj ?_)|exact Kk|refine Kl ?_ ?_|(refine Km ?_;first|refine Kn ?_|(refine Ko ?_;intro _))|(refine Kp ?_;first|refine Kq ?_|refine Kr ?_)|refine Kh ?_)
      refine Tri.dr (.take 0 (.take 1 (.take 2 (.take 3 (.take 4 (.take 5 (.take 6 (.take 7 (.take 8 (.take 9 (.take 10 (.take 11 (.take 12 (.all [(13,.done)])))))))))))))) ?_
      (repeat' first|(refine Ka ?_;first|refine Kb ?_|(refine Kc ?_;intro _))|refine Kd ?_|(refine Ki ?_;refine Kj ?_)|exact Kk|refine Kl ?_ ?_|(refine Km ?_;first|refine Kn ?_|(refine Ko ?_;intro _))|(refine Kp ?_;first|refine Kq ?_|refine Kr ?_)|refine Kh ?_)
      rw [clampV (s.z+x.o2)]
      generalize hv2:clampI (s.z+x.o2)=v2
      (repeat' first|(refine Ka ?_;first|refine Kb ?_|(refine Kc ?_;intro _))|refine Kd ?_|(refine Ki ?_;refine Kj ?_)|exact Kk|refine Kl ?_ ?_|(refine Km ?_;first|refine Kn ?_|(refine Ko ?_;intro _))|(refine Kp ?_;first|refine Kq ?_|refine Kr ?_)|refine Kh ?_)
      (refine Post.ra ?_)
      refine ⟨_,⟨⟨v0,v1,v2⟩,?_,rfl,rfl⟩,by (exact Ents.au)⟩
      rw [isFar_no]
      have w0:=clamp_in hv0
      have w1:=clamp_in hv1
      have w2:=clamp_in hv2
      simp only
      omega
end Go.Proofs.YtgapnfaakdjpaaaGreatDoor

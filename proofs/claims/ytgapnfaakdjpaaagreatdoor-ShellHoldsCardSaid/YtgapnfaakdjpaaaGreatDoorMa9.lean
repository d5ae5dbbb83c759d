/- Walks: the measures of a mesh: the Euler number, the box. Walks: a mesh turned inside out, a mesh moved. Walks: the sixfold volume of a mesh. -/
import Derived.Test.YtgapnfaakdjpaaaGreatDoorMa6
import Derived.Test.YtgapnfaakdjpaaaGreatDoorPl
import Derived.Test.YtgapnfaakdjpaaaGreatDoorWa5
namespace Go.Proofs.YtgapnfaakdjpaaaGreatDoor
open Go Go.Sx
variable {w0:World} {As:List Ent} {pv fv:Value} {pts fcs:List V3}
end Go.Proofs.YtgapnfaakdjpaaaGreatDoor
namespace Go.Proofs.YtgapnfaakdjpaaaGreatDoor
open Go Go.Sx
variable {w0:World} {As:List Ent} {pv fv:Value} {pts fcs:List V3}
def MeshR (As:List Ent) (r:Int × List V3 × List V3) (v:Value) (Bs:List Ent):Prop:=∃ pv fv,v=.tuple #[.agg #[pv,fv],.int .i64 r.1]∧pv.oneCell'=true∧fv.oneCell'=true∧Bs=.ow cV3 31 pv r.2.1::.ow cV3 31 fv r.2.2::As
theorem meshR_none {r:Int}:∃ As',MeshR As (r,[],[]) (.tuple #[.agg #[.slice none 0 0,.slice none 0 0],.int .i64 r]) As'∧Ents As As' :=
  ⟨_,⟨_,_,rfl,rfl,rfl,rfl⟩,Ents.trans (Ents.nilW cV3) (Ents.nilW cV3)⟩
theorem meshR_eq {r:Int × List V3 × List V3} {e:Int} {P F:List V3} (hr:r=(e,P,F)) {v:Value} {Bs:List Ent} (h:MeshR As r v Bs):∃ pv fv,v=.tuple #[.agg #[pv,fv],.int .i64 e]∧pv.oneCell'=true∧fv.oneCell'=true∧Bs=.ow cV3 31 pv P::.ow cV3 31 fv F::As:=by
  subst hr;exact h
theorem turned_ok [RdIn As fv V3 cV3 fcs] [RdIn As pv V3 cV3 pts] :
    CallsS Tryz.prog w0 69 [.agg #[pv,fv]] As (MeshR As (turnedM pts fcs)):=by
  refine CallsS.of_tri Tryz.func69 rfl Tryz.ntmps69 rfl ?_
  (repeat' first|(refine Ka ?_;first|refine Kb ?_|(refine Kc ?_;intro _))|refine Kd ?_|refine Kh ?_)
  refine TL.call rfl rfl rfl check_ok ?_
  rintro _ _ ⟨rfl,rfl⟩
  (repeat' first|(refine Ka ?_;first|refine Kb ?_|(refine Kc ?_;intro _))|refine Kd ?_|refine Kh ?_)
  ((show Tri _ _ _ (.cond _ _ _) _ _ _;first|refine Tri.condP rfl (fun hc=>?_) (fun hc=>?_)|refine Tri.condN rfl (fun hc=>?_) (fun hc=>?_)))
  · obtain ⟨h1,h2⟩:=chk_no hc
    rw [h2]
    (repeat' first|(refine Ka ?_;first|refine Kb ?_|(refine Kc ?_;intro _))|refine Kd ?_|refine Kh ?_)
    (refine Post.ra ?_)
    rw [turnedM,if_neg h1]
    obtain ⟨As',h3,h4⟩:=meshR_none (As:=As) (r:=350)
    exact ⟨As',h3,Ents.trans (by (exact Ents.au)) h4⟩
  · have hk:=chk_ok hc
    have hg:=okM_good.1 hk
    have hlp:=hg.p300
    have hlf:=hg.f600
    (repeat' first|(refine Ka ?_;first|refine Kb ?_|(refine Kc ?_;intro _))|refine Kd ?_|refine Kh ?_)
    rename_i b1 b2
    refine Tri.mid (fun e' As'=>∃ p1 c1 p2 c2 b5,e'=[(1,.pointer (some ⟨b1,0,none⟩)),(2,.pointer (some ⟨b2,0,none⟩)),(5,.pointer (some ⟨b5,0,none⟩))] ∧
      As'=.ow cV3 31 (.slice p1 pts.length c1) pts::.ow cV3 31 (.slice p2 fcs.length c2) fcs::.cl b5 [.slice p1 pts.length c1,.slice p2 fcs.length c2] 34::.cl b1 [pv,fv] 34::.cl b2 [.slice none 0 0,.slice none 0 0] 34::As) ?_ ?_
    · refine Tri.dw (.cl b1 [pv,fv] 34::As) [] (.take 0 (.take 1 (.take 3 (.take 4 (.all [(2,.all [(5,.take 6 (.all [(7,.all [(8,.done)])])),(7,.all [(5,.take 6 (.all [(8,.done)]))])]),(7,.all [(2,.all [(5,.take 6 (.all [(8,.done)]))])])]))))) ?_
      (repeat' first|(refine Ka ?_;first|refine Kb ?_|(refine Kc ?_;intro _))|refine Kd ?_|(refine Ki ?_;refine Kj ?_)|exact Kk|refine Kl ?_ ?_|(refine Km ?_;first|refine Kn ?_|(refine Ko ?_;intro _))|(refine Kp ?_;first|refine Kq ?_|refine Kr ?_)|refine Kh ?_)
      all_goals
        refine T1.call rfl rfl rfl rfl (clone_ok (by omega)) ?_
        rintro _ _ ⟨p1,c1,rfl,rfl⟩
        (repeat' first|(refine Ka ?_;first|refine Kb ?_|(refine Kc ?_;intro _))|refine Kd ?_|(refine Ki ?_;refine Kj ?_)|exact Kk|refine Kl ?_ ?_|(refine Km ?_;first|refine Kn ?_|(refine Ko ?_;intro _))|(refine Kp ?_;first|refine Kq ?_|refine Kr ?_)|refine Kh ?_)
      all_goals
        refine T1.call rfl rfl rfl rfl (clone_ok (by omega)) ?_
        rintro _ _ ⟨p2,c2,rfl,rfl⟩
        (repeat' first|(refine Ka ?_;first|refine Kb ?_|(refine Kc ?_;intro _))|refine Kd ?_|(refine Ki ?_;refine Kj ?_)|exact Kk|refine Kl ?_ ?_|(refine Km ?_;first|refine Kn ?_|(refine Ko ?_;intro _))|(refine Kp ?_;first|refine Kq ?_|refine Kr ?_)|refine Kh ?_)
      all_goals
        rename_i b5
        exact Post.cut _ _ ⟨p1,c1,p2,c2,b5,rfl,rfl⟩ (by (exact Sub.au)) (by (exact Ents.au))
    · rintro _ _ ⟨p1,c1,p2,c2,b5,rfl,rfl⟩
      (repeat' first|(refine Ka ?_;first|refine Kb ?_|(refine Kc ?_;intro _))|refine Kd ?_|(refine Ki ?_;refine Kj ?_)|exact Kk|refine Kl ?_ ?_|(refine Km ?_;first|refine Kn ?_|(refine Ko ?_;intro _))|(refine Kp ?_;first|refine Kq ?_|refine Kr ?_)|refine Kh ?_)
      refine Tri.loop (ι:=Nat) (fun k=>k≤fcs.length) (fun k=>fcs.length - k)
        (fun k=>[(1,.pointer (some ⟨b1,0,none⟩)),(2,.pointer (some ⟨b2,0,none⟩)),(5,.pointer (some ⟨b5,0,none⟩)),(22,fv),(23,.int .i64 fcs.length),(24,.int .i64 k)])
        (fun k=>.ow cV3 31 (.slice p1 pts.length c1) pts::.ow cV3 31 (.slice p2 fcs.length c2) ((fcs.take k).map swapF++fcs.drop k)::.cl b5 [.slice p1 pts.length c1,.slice p2 fcs.length c2] 34::.cl b2 [.slice none 0 0,.slice none 0 0] 34::As) 0 (by omega) (by (exact Sub.au)) (by simp only [List.take_zero,List.map_nil,List.nil_append,List.drop_zero];(exact Ents.au)) ?_
      intro k hkl
      have hlen:((fcs.take k).map swapF++fcs.drop k).length=fcs.length:=mapTake_length
      generalize hxs:(fcs.take k).map swapF++fcs.drop k=xs at hlen ⊢
      (repeat' first|(refine Ka ?_;first|refine Kb ?_|(refine Kc ?_;intro _))|refine Kd ?_|(refine Ki ?_;refine Kj ?_)|exact Kk|refine Kl ?_ ?_|(refine Km ?_;first|refine Kn ?_|(refine Ko ?_;intro _))|(refine Kp ?_;first|refine Kq ?_|refine Kr ?_)|refine Kh ?_)
      ((show Tri _ _ _ (.cond _ _ _) _ _ _;first|refine Tri.condP rfl (fun hc=>?_) (fun hc=>?_)|refine Tri.condN rfl (fun hc=>?_) (fun hc=>?_)))
      · obtain ⟨f,hp⟩:∃ p,fcs[k]?=some p:=⟨_,List.getElem?_eq_getElem (by omega)⟩
        have hq:xs[k]?=some f:=by rw [← hxs];exact mapTake_get hp
        (repeat' first|(refine Ka ?_;first|refine Kb ?_|(refine Kc ?_;intro _))|refine Kd ?_|(refine Ki ?_;refine Kj ?_)|exact Kk|refine Kl ?_ ?_|(refine Km ?_;first|refine Kn ?_|(refine Ko ?_;intro _))|(refine Kp ?_;first|refine Kq ?_|refine Kr ?_)|refine Kh ?_)
        refine Post.round (k+1) (by omega) (by omega) (by (exact Sub.au)) ?_
        have e9:=mapTake_set (f:=swapF) (y:=⟨f.x,f.z,f.y⟩) hp rfl
        rw [hxs] at e9
        rw [← e9]
        (exact Ents.au)
      · (repeat' first|(refine Ka ?_;first|refine Kb ?_|(refine Kc ?_;intro _))|refine Kd ?_|refine Kh ?_)
        (refine Post.ra ?_)
        have hk':k=fcs.length:=by omega
        subst hk'
        rw [List.take_length,List.drop_length,List.append_nil] at hxs
        subst hxs
        rw [turnedM,if_pos hk]
        exact ⟨_,⟨_,_,rfl,rfl,rfl,rfl⟩,by (exact Ents.au)⟩
end Go.Proofs.YtgapnfaakdjpaaaGreatDoor
namespace Go.Proofs.YtgapnfaakdjpaaaGreatDoor
open Go Go.Sx
variable {w0:World} {As:List Ent} {pv fv:Value} {pts fcs:List V3}
theorem dot_ok {p q:V3} {m n:Int} (hp:p.in m) (hq:q.in n) (g0:0≤m) (g1:0≤n) (hm:3 * (m * n)≤9223372036854775807) :
    CallsS Tryz.prog w0 104 [p.val,q.val] As fun v Bs=>v=.int .i64 (p.dot q)∧Bs=As:=by
  obtain ⟨h1,h2,h3,h4,h5,h6⟩:=hp
  obtain ⟨k1,k2,k3,k4,k5,k6⟩:=hq
  have a1:=mul_in g0 g1 h1 h2 k1 k2
  have a2:=mul_in g0 g1 h3 h4 k3 k4
  have a3:=mul_in g0 g1 h5 h6 k5 k6
  refine CallsS.of_tri Tryz.func104 rfl Tryz.ntmps104 rfl ?_
  (repeat' first|(refine Ka ?_;first|refine Kb ?_|(refine Kc ?_;intro _))|refine Kd ?_|refine Kh ?_)
  (refine Post.ra ?_)
  exact ⟨_,⟨rfl,rfl⟩,by (exact Ents.au)⟩
theorem addW_text {x y:Int} (hx:Lib.nDigits x.natAbs≤600) (hy:Lib.nDigits y.natAbs≤600) (hxy:Lib.nDigits (x+y).natAbs≤600):addW (textI x) (textI y)=(textI (x+y),0):=by
  rw [addW,readW_text hx,readW_text hy]
  simp only
  rw [outW,if_neg (by omega)]
theorem text_len {x:Int} (hx:Lib.nDigits x.natAbs≤600):(textI x).length≤601:=by
  have:=dec_len x.natAbs
  unfold textI Lib.itoa
  split
  · simp;omega
  · rw [show x.toNat=x.natAbs by omega];omega
theorem nDigits_600 {x:Int} (h1:-100000000000000000000000000000≤x) (h2:x≤100000000000000000000000000000):Lib.nDigits x.natAbs≤600:=by
  have:=nDigits_le (k:=29) (r:=x.natAbs) (by
    have:(10:Nat) ^ (29+1)=1000000000000000000000000000000:=by decide
    omega)
  omega
set_option maxHeartbeats 1000000 in
theorem volume6_ok (ht:Tab w0) [RdIn As fv V3 cV3 fcs] [RdIn As pv V3 cV3 pts] :
    CallsS Tryz.prog w0 62 [.agg #[pv,fv]] As fun v Bs=>v=(if okM pts fcs then .tuple #[.string ⟨(textI (volM pts fcs)).toArray⟩,.int .i64 0] else .tuple #[.string ⟨#[]⟩,.int .i64 350])∧Bs=As:=by
  refine CallsS.of_tri Tryz.func62 rfl Tryz.ntmps62 rfl ?_
  (repeat' first|(refine Ka ?_;first|refine Kb ?_|(refine Kc ?_;intro _))|refine Kd ?_|refine Kh ?_)
  refine TL.call rfl rfl rfl check_ok ?_
  rintro _ _ ⟨rfl,rfl⟩
  (repeat' first|(refine Ka ?_;first|refine Kb ?_|(refine Kc ?_;intro _))|refine Kd ?_|refine Kh ?_)
  ((show Tri _ _ _ (.cond _ _ _) _ _ _;first|refine Tri.condP rfl (fun hc=>?_) (fun hc=>?_)|refine Tri.condN rfl (fun hc=>?_) (fun hc=>?_)))
  · obtain ⟨h1,h2⟩:=chk_no hc
    rw [h2]
    (repeat' first|(refine Ka ?_;first|refine Kb ?_|(refine Kc ?_;intro _))|refine Kd ?_|refine Kh ?_)
    (refine Post.ra ?_)
    exact ⟨_,⟨by rw [if_neg h1],rfl⟩,by (exact Ents.au)⟩
  · have hk:=chk_ok hc
    have hg:=okM_good.1 hk
    have hfar:=far_none hg.far
    have hw:=wrong_none hg.wrong
    have hlf:=hg.f600
    have hlp:=hg.p300
    (repeat' first|(refine Ka ?_;first|refine Kb ?_|(refine Kc ?_;intro _))|refine Kd ?_|refine Kh ?_)
    refine TL.call rfl rfl rfl (ofInt_ok ht (n:=0) (by decide) (by decide)) ?_
    rintro _ _ ⟨rfl,rfl⟩
    (repeat' first|(refine Ka ?_;first|refine Kb ?_|(refine Kc ?_;intro _))|refine Kd ?_|refine Kh ?_)
    rename_i b1
    refine Tri.loop (ι:=Nat) (fun k=>k≤fcs.length) (fun k=>fcs.length - k)
      (fun k=>[(1,.pointer (some ⟨b1,0,none⟩)),(5,.string ⟨(textI (volM pts (fcs.take k))).toArray⟩),(19,fv),(20,.int .i64 fcs.length),(21,.int .i64 k)]) (fun _=>.cl b1 [pv,fv] 34::As) 0 (by omega) (by (exact Sub.au)) (by (exact Ents.au)) ?_
    intro k hkl
    (repeat' first|(refine Ka ?_;first|refine Kb ?_|(refine Kc ?_;intro _))|refine Kd ?_|refine Kh ?_)
    ((show Tri _ _ _ (.cond _ _ _) _ _ _;first|refine Tri.condP rfl (fun hc=>?_) (fun hc=>?_)|refine Tri.condN rfl (fun hc=>?_) (fun hc=>?_)))
    · obtain ⟨f,hp⟩:∃ p,fcs[k]?=some p:=⟨_,List.getElem?_eq_getElem (by omega)⟩
      have hv:=hw f (List.mem_of_getElem? hp)
      have hvk:=volTake_in hfar fcs k
      have hfv:=faceV_in hfar f
      have hstep:volM pts (fcs.take (k+1))=volM pts (fcs.take k)+faceV pts f:=by
        unfold volM;rw [take_succ_foldl hp]
      generalize volM pts (fcs.take k)=tk at hvk hstep ⊢
      simp only [isWrong,Bool.or_eq_false_iff,decide_eq_false_iff_not] at hv
      obtain ⟨i,hi⟩:∃ i:Nat,f.x=(i:Int):=⟨f.x.toNat,by omega⟩
      obtain ⟨j,hj⟩:∃ i:Nat,f.y=(i:Int):=⟨f.y.toNat,by omega⟩
      obtain ⟨l,hl'⟩:∃ i:Nat,f.z=(i:Int):=⟨f.z.toNat,by omega⟩
      obtain ⟨fx,fy,fz⟩:=f
      simp only at hi hj hl' hv
      subst hi hj hl'
      obtain ⟨p,ep⟩:∃ p,pts[i]?=some p:=⟨_,List.getElem?_eq_getElem (by omega)⟩
      obtain ⟨q,eq⟩:∃ p,pts[j]?=some p:=⟨_,List.getElem?_eq_getElem (by omega)⟩
      obtain ⟨r,er⟩:∃ p,pts[l]?=some p:=⟨_,List.getElem?_eq_getElem (by omega)⟩
      have hn:faceV pts ⟨(i:Int),(j:Int),(l:Int)⟩=p.dot (q.cross r):=by simp [faceV,ptAt,ep,eq,er]
      rw [hn] at hfv hstep
      (repeat' first|(refine Ka ?_;first|refine Kb ?_|(refine Kc ?_;intro _))|refine Kd ?_|refine Kh ?_)
      refine Tri.mid (fun e' As'=>∃ b6 b7 b8,e'=[(1,.pointer (some ⟨b1,0,none⟩)),(5,.string ⟨(textI tk).toArray⟩),(8,.pointer (some ⟨b6,0,none⟩)),(9,.pointer (some ⟨b7,0,none⟩)),(10,.pointer (some ⟨b8,0,none⟩)),(19,fv),(20,.int .i64 fcs.length),(21,.int .i64 k)] ∧
        As'=.cl b6 [.int .i64 p.x,.int .i64 p.y,.int .i64 p.z] 31::.cl b7 [.int .i64 q.x,.int .i64 q.y,.int .i64 q.z] 31::.cl b8 [.int .i64 r.x,.int .i64 r.y,.int .i64 r.z] 31::.cl b1 [pv,fv] 34::As) ?_ ?_
      · refine Tri.dr (.take 0 (.take 1 (.take 2 (.take 3 (.take 4 (.take 5 (.take 6 (.take 7 (.take 8 (.take 9 (.take 10 (.take 11 (.take 12 (.take 13 (.take 14 (.take 15 (.take 16 (.take 17 (.all [(18,.all [(19,.all [(20,.all [(21,.all [(22,.all [(23,.done)])])])]),(20,.all [(19,.all [(21,.all [(22,.all [(23,.done)])])])])]),(19,.all [(18,.all [(20,.all [(21,.all [(22,.all [(23,.done)])])])]),(20,.all [(18,.all [(21,.all [(22,.all [(23,.done)])])])])]),(20,.all [(18,.all [(19,.all [(21,.all [(22,.all [(23,.done)])])])]),(19,.all [(18,.all [(21,.all [(22,.all [(23,.done)])])])])])]))))))))))))))))))) ?_
        (repeat' first|(refine Ka ?_;first|refine Kb ?_|(refine Kc ?_;intro _))|refine Kd ?_|(refine Ki ?_;refine Kj ?_)|exact Kk|refine Kl ?_ ?_|(refine Km ?_;first|refine Kn ?_|(refine Ko ?_;intro _))|(refine Kp ?_;first|refine Kq ?_|refine Kr ?_)|refine Kh ?_)
        all_goals exact Post.cut _ _ ⟨_,_,_,rfl,rfl⟩ (by (exact Sub.au)) (by (exact Ents.au))
      · rintro e' As' ⟨b6,b7,b8,rfl,rfl⟩
        have hp':=hfar p (List.mem_of_getElem? ep)
        have hq':=hfar q (List.mem_of_getElem? eq)
        have hr':=hfar r (List.mem_of_getElem? er)
        have hd1:Lib.nDigits tk.natAbs≤600:=nDigits_600 (by omega) (by omega)
        have hd2:Lib.nDigits (p.dot (q.cross r)).natAbs≤600:=nDigits_600 (by omega) (by omega)
        have hd3:Lib.nDigits (tk+p.dot (q.cross r)).natAbs≤600:=nDigits_600 (by omega) (by omega)
        have hl1:=text_len hd1
        have hl2:=text_len hd2
        (repeat' first|(refine Ka ?_;first|refine Kb ?_|(refine Kc ?_;intro _))|refine Kd ?_|(refine Ki ?_;refine Kj ?_)|exact Kk|refine Kl ?_ ?_|(refine Km ?_;first|refine Kn ?_|(refine Ko ?_;intro _))|(refine Kp ?_;first|refine Kq ?_|refine Kr ?_)|refine Kh ?_)
        refine Tri.dr (.take 0 (.take 1 (.take 2 (.take 3 (.all [(4,.all [(5,.all [(6,.all [(7,.take 8 (.take 9 (.take 10 (.take 11 (.take 12 (.done))))))])])])]))))) ?_
        (repeat' first|(refine Ka ?_;first|refine Kb ?_|(refine Kc ?_;intro _))|refine Kd ?_|(refine Ki ?_;refine Kj ?_)|exact Kk|refine Kl ?_ ?_|(refine Km ?_;first|refine Kn ?_|(refine Ko ?_;intro _))|(refine Kp ?_;first|refine Kq ?_|refine Kr ?_)|refine Kh ?_)
        refine T1.call rfl rfl rfl rfl (cross_ok hq' hr' (by decide) (by decide) (by decide)) ?_
        rintro _ _ ⟨rfl,rfl⟩
        (repeat' first|(refine Ka ?_;first|refine Kb ?_|(refine Kc ?_;intro _))|refine Kd ?_|(refine Ki ?_;refine Kj ?_)|exact Kk|refine Kl ?_ ?_|(refine Km ?_;first|refine Kn ?_|(refine Ko ?_;intro _))|(refine Kp ?_;first|refine Kq ?_|refine Kr ?_)|refine Kh ?_)
        refine T1.call rfl rfl rfl rfl (dot_ok hp' (cross_in (by decide) (by decide) hq' hr') (by decide) (by decide) (by decide)) ?_
        rintro _ _ ⟨rfl,rfl⟩
        (repeat' first|(refine Ka ?_;first|refine Kb ?_|(refine Kc ?_;intro _))|refine Kd ?_|(refine Ki ?_;refine Kj ?_)|exact Kk|refine Kl ?_ ?_|(refine Km ?_;first|refine Kn ?_|(refine Ko ?_;intro _))|(refine Kp ?_;first|refine Kq ?_|refine Kr ?_)|refine Kh ?_)
        refine T1.call rfl rfl rfl rfl (ofInt_ok ht (by omega) (by omega)) ?_
        rintro _ _ ⟨rfl,rfl⟩
        (repeat' first|(refine Ka ?_;first|refine Kb ?_|(refine Kc ?_;intro _))|refine Kd ?_|(refine Ki ?_;refine Kj ?_)|exact Kk|refine Kl ?_ ?_|(refine Km ?_;first|refine Kn ?_|(refine Ko ?_;intro _))|(refine Kp ?_;first|refine Kq ?_|refine Kr ?_)|refine Kh ?_)
        refine T1.call rfl rfl rfl rfl (add_ok ht (by omega) (by omega)) ?_
        rintro _ _ ⟨rfl,rfl⟩
        rw [addW_text hd1 hd2 hd3]
        (repeat' first|(refine Ka ?_;first|refine Kb ?_|(refine Kc ?_;intro _))|refine Kd ?_|(refine Ki ?_;refine Kj ?_)|exact Kk|refine Kl ?_ ?_|(refine Km ?_;first|refine Kn ?_|(refine Ko ?_;intro _))|(refine Kp ?_;first|refine Kq ?_|refine Kr ?_)|refine Kh ?_)
        refine Post.round (k+1) (by omega) (by omega) ?_ (by (exact Ents.au))
        rw [hstep]
        (exact Sub.au)
    · (repeat' first|(refine Ka ?_;first|refine Kb ?_|(refine Kc ?_;intro _))|refine Kd ?_|(refine Ki ?_;refine Kj ?_)|exact Kk|refine Kl ?_ ?_|(refine Km ?_;first|refine Kn ?_|(refine Ko ?_;intro _))|(refine Kp ?_;first|refine Kq ?_|refine Kr ?_)|refine Kh ?_)
      (refine Post.ra ?_)
      have hk':k=fcs.length:=by omega
      subst hk'
      rw [List.take_length]
      exact ⟨_,⟨by rw [if_pos hk],rfl⟩,by (exact Ents.au)⟩
end Go.Proofs.YtgapnfaakdjpaaaGreatDoor

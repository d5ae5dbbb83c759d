/- Walks: the reference on fractions: which are valid, reading, comparing. -/
import Derived.Test.YtgapnfaakdjpaaaGreatDoorCd1
import Derived.Test.YtgapnfaakdjpaaaGreatDoorIx1
import Derived.Test.YtgapnfaakdjpaaaGreatDoorVb1
import Derived.Test.YtgapnfaakdjpaaaGreatDoorCc1
import Derived.Test.YtgapnfaakdjpaaaGreatDoorJr1
import Derived.Test.YtgapnfaakdjpaaaGreatDoorIxa
import Derived.Test.YtgapnfaakdjpaaaGreatDoorIj1
namespace Go.Sx
open Go
theorem textI_one':textI 1=[49]:=by rw [textI_eq,if_neg (by omega)];exact dec_small (by decide)
end Go.Sx
namespace Go.Proofs.YtgapnfaakdjpaaaGreatDoor
open Go Go.Sx
variable {w0:World} {As:List Ent}
theorem right02_ok {r:Rat} (hr:Fit 600 r):CallsS Tryz.prog w0 57 [.agg #[.string ⟨(tN r).toArray⟩,.string ⟨(tD r).toArray⟩]] As fun u Bs=>u=.bool true∧Bs=As:=by
  have r1:readW (tN r)=some r.num:=readW_text hr.1
  have r2:readW (tD r)=some (r.den:Int):=readW_text (by rw [Int.natAbs_natCast];exact hr.2)
  obtain ⟨l1,l2⟩:=hr.qud
  have l3:(qud (r.den:Int).natAbs).length≤600:=by rw [Int.natAbs_natCast];exact l2
  have hl0:(qud (r.den:Int).natAbs).length≠0:=by
    intro h
    have h1:valQ (qud (r.den:Int).natAbs)=0:=by rw [List.length_eq_zero_iff.1 h];rfl
    rw [valQ_qud,Int.natAbs_natCast] at h1
    exact r.den_nz h1
  have hg:gcdI r.num (r.den:Int)=1:=by
    have:=r.reduced
    unfold Nat.Coprime at this
    unfold gcdI
    rw [Int.natAbs_natCast,this];rfl
  refine CallsS.of_tri Tryz.func57 rfl Tryz.ntmps57 rfl ?_
  (repeat' first|(refine Ka ?_;first|refine Kb ?_|(refine Kc ?_;intro _))|refine Kd ?_|refine Kh ?_)
  refine TL.call rfl rfl rfl (rightR_ok (s:=tN r) (tN_len hr)) ?_
  rintro _ _ ⟨rfl,rfl⟩
  rw [r1]
  (repeat' first|(refine Ka ?_;first|refine Kb ?_|(refine Kc ?_;intro _))|refine Kd ?_|refine Kh ?_)
  refine TL.call rfl rfl rfl (rightR_ok (s:=tD r) (tD_len hr)) ?_
  rintro _ _ ⟨rfl,rfl⟩
  rw [r2]
  (repeat' first|(refine Ka ?_;first|refine Kb ?_|(refine Kc ?_;intro _))|refine Kd ?_|refine Kh ?_)
  rename_i b1
  refine Tri.mid (fun e' As'=>∃ p c q d b3 b4,e'=[(1,.pointer (some ⟨b1,0,none⟩)),(2,.bool false),(3,.pointer (some ⟨b3,0,none⟩)),(4,.pointer (some ⟨b4,0,none⟩))] ∧
    As'=.cl b3 [.bool (decide (r.num < 0)),.slice p (qud r.num.natAbs).length c] 115::.cl b4 [.bool (decide ((r.den:Int) < 0)),.slice q (qud (r.den:Int).natAbs).length d] 115 ::
      .ft (rd (cN .i64) (.slice p (qud r.num.natAbs).length c) (qud r.num.natAbs))::.ft (rd (cN .i64) (.slice q (qud (r.den:Int).natAbs).length d) (qud (r.den:Int).natAbs))::As) ?_ ?_
  · refine Tri.dw [.cl b1 [.string ⟨(tN r).toArray⟩,.string ⟨(tD r).toArray⟩] 49] [] (.take 0 (.take 1 (.take 3 (.take 4 (.all [(2,.all [(5,.all [(6,.all [(7,.all [(8,.all [(9,.done)])])]),(7,.all [(6,.all [(8,.all [(9,.done)])])])]),(6,.all [(5,.all [(7,.all [(8,.all [(9,.done)])])]),(7,.all [(5,.all [(8,.all [(9,.done)])])])]),(7,.all [(5,.all [(6,.all [(8,.all [(9,.done)])])]),(6,.all [(5,.all [(8,.all [(9,.done)])])])])]),(6,.all [(2,.all [(5,.all [(7,.all [(8,.all [(9,.done)])])]),(7,.all [(5,.all [(8,.all [(9,.done)])])])]),(7,.all [(2,.all [(5,.all [(8,.all [(9,.done)])])])])]),(7,.all [(2,.all [(5,.all [(6,.all [(8,.all [(9,.done)])])]),(6,.all [(5,.all [(8,.all [(9,.done)])])])]),(6,.all [(2,.all [(5,.all [(8,.all [(9,.done)])])])])])]))))) ?_
    (repeat' first|(refine Ka ?_;first|refine Kb ?_|(refine Kc ?_;intro _))|refine Kd ?_|(refine Ki ?_;refine Kj ?_)|exact Kk|refine Kl ?_ ?_|(refine Km ?_;first|refine Kn ?_|(refine Ko ?_;intro _))|(refine Kp ?_;first|refine Kq ?_|refine Kr ?_)|refine Kh ?_)
    repeat' (first|(refine T1.callv rfl rfl rfl rfl rfl (inR_ok r1) ?_;rintro _ _ ⟨p1,c1,rfl,rfl⟩;(repeat' first|(refine Ka ?_;first|refine Kb ?_|(refine Kc ?_;intro _))|refine Kd ?_|(refine Ki ?_;refine Kj ?_)|exact Kk|refine Kl ?_ ?_|(refine Km ?_;first|refine Kn ?_|(refine Ko ?_;intro _))|(refine Kp ?_;first|refine Kq ?_|refine Kr ?_)|refine Kh ?_))|(refine T1.callv rfl rfl rfl rfl rfl (inR_ok r2) ?_;rintro _ _ ⟨p2,c2,rfl,rfl⟩;(repeat' first|(refine Ka ?_;first|refine Kb ?_|(refine Kc ?_;intro _))|refine Kd ?_|(refine Ki ?_;refine Kj ?_)|exact Kk|refine Kl ?_ ?_|(refine Km ?_;first|refine Kn ?_|(refine Ko ?_;intro _))|(refine Kp ?_;first|refine Kq ?_|refine Kr ?_)|refine Kh ?_)))
    all_goals exact Post.cut _ _ ⟨p1,c1,p2,c2,_,_,rfl,rfl⟩ (by (exact Sub.au)) (by (exact Ents.au))
  rintro _ _ ⟨p,c,q,d,b3,b4,rfl,rfl⟩
  rw [show decide ((r.den:Int) < 0)=false from decide_eq_false (by omega)]
  have hl1:((qud (r.den:Int).natAbs).length:Int)≠0:=by omega
  (repeat' first|(refine Ka ?_;first|refine Kb ?_|(refine Kc ?_;intro _))|refine Kd ?_|(refine Ki ?_;refine Kj ?_)|exact Kk|refine Kl ?_ ?_|(refine Km ?_;first|refine Kn ?_|(refine Ko ?_;intro _))|(refine Kp ?_;first|refine Kq ?_|refine Kr ?_)|refine Kh ?_)
  have hdv:=fun Bs [FtIn Bs (.slice p (qud r.num.natAbs).length c) Nat (cN .i64) (qud r.num.natAbs)] [FtIn Bs (.slice q (qud (r.den:Int).natAbs).length d) Nat (cN .i64) (qud (r.den:Int).natAbs)]=>divisorR_ok (w0:=w0) (As:=Bs) (v:=.slice p (qud r.num.natAbs).length c) (o:=.slice q (qud (r.den:Int).natAbs).length d) (x:=r.num) (y:=(r.den:Int)) (by omega) (by omega)
  rw [show decide ((r.den:Int) < 0)=false from decide_eq_false (by omega),hg] at hdv
  refine TL.callv rfl rfl rfl rfl (hdv _) ?_
  rintro _ _ ⟨q3,d3,rfl,rfl⟩
  (repeat' first|(refine Ka ?_;first|refine Kb ?_|(refine Kc ?_;intro _))|refine Kd ?_|(refine Ki ?_;refine Kj ?_)|exact Kk|refine Kl ?_ ?_|(refine Km ?_;first|refine Kn ?_|(refine Ko ?_;intro _))|(refine Kp ?_;first|refine Kq ?_|refine Kr ?_)|refine Kh ?_)
  refine TL.call rfl rfl rfl (textR_ok (z:=1) (Nat.le_trans (qud_len_lt (k:=1) (by decide)) (by decide))) ?_
  rintro _ _ ⟨rfl,rfl⟩
  rw [textI_one']
  (repeat' first|(refine Ka ?_;first|refine Kb ?_|(refine Kc ?_;intro _))|refine Kd ?_|(refine Ki ?_;refine Kj ?_)|exact Kk|refine Kl ?_ ?_|(refine Km ?_;first|refine Kn ?_|(refine Ko ?_;intro _))|(refine Kp ?_;first|refine Kq ?_|refine Kr ?_)|refine Kh ?_)
  (refine Post.ra ?_)
  exact ⟨_,⟨rfl,rfl⟩,by (exact Ents.au)⟩
theorem in02_ok {r:Rat} (hr:Fit 600 r):CallsS Tryz.prog w0 59 [.agg #[.string ⟨(tN r).toArray⟩,.string ⟨(tD r).toArray⟩]] As (Q.RatP As r):=by
  have r1:readW (tN r)=some r.num:=readW_text hr.1
  have r2:readW (tD r)=some (r.den:Int):=readW_text (by rw [Int.natAbs_natCast];exact hr.2)
  refine CallsS.of_tri Tryz.func59 rfl Tryz.ntmps59 rfl ?_
  (repeat' first|(refine Ka ?_;first|refine Kb ?_|(refine Kc ?_;intro _))|refine Kd ?_|refine Kh ?_)
  rename_i b1 b2
  refine Tri.dw [.cl b1 [.string ⟨(tN r).toArray⟩,.string ⟨(tD r).toArray⟩] 49] [] (.take 0 (.take 1 (.take 3 (.take 4 (.all [(2,.all [(5,.take 6 (.all [(7,.done)]))])]))))) ?_
  (repeat' first|(refine Ka ?_;first|refine Kb ?_|(refine Kc ?_;intro _))|refine Kd ?_|(refine Ki ?_;refine Kj ?_)|exact Kk|refine Kl ?_ ?_|(refine Km ?_;first|refine Kn ?_|(refine Ko ?_;intro _))|(refine Kp ?_;first|refine Kq ?_|refine Kr ?_)|refine Kh ?_)
  refine T1.callv rfl rfl rfl rfl rfl (inR_ok r1) ?_
  rintro _ _ ⟨p1,c1,rfl,rfl⟩
  (repeat' first|(refine Ka ?_;first|refine Kb ?_|(refine Kc ?_;intro _))|refine Kd ?_|(refine Ki ?_;refine Kj ?_)|exact Kk|refine Kl ?_ ?_|(refine Km ?_;first|refine Kn ?_|(refine Ko ?_;intro _))|(refine Kp ?_;first|refine Kq ?_|refine Kr ?_)|refine Kh ?_)
  refine T1.callv rfl rfl rfl rfl rfl (inR_ok r2) ?_
  rintro _ _ ⟨p2,c2,rfl,rfl⟩
  (repeat' first|(refine Ka ?_;first|refine Kb ?_|(refine Kc ?_;intro _))|refine Kd ?_|(refine Ki ?_;refine Kj ?_)|exact Kk|refine Kl ?_ ?_|(refine Km ?_;first|refine Kn ?_|(refine Ko ?_;intro _))|(refine Kp ?_;first|refine Kq ?_|refine Kr ?_)|refine Kh ?_)
  (refine Post.ra ?_)
  exact ⟨_,⟨p1,c1,p2,c2,rfl,rfl⟩,by (exact Ents.au)⟩
theorem order02_ok {v1 v2 v3 v4:Value} {r s:Rat} [RdIn As v1 Nat (cN .i64) (qud r.num.natAbs)] [RdIn As v2 Nat (cN .i64) (qud (r.den:Int).natAbs)] [RdIn As v3 Nat (cN .i64) (qud s.num.natAbs)] [RdIn As v4 Nat (cN .i64) (qud (s.den:Int).natAbs)] (hr:Fit 600 r) (hs:Fit 600 s) :
    CallsS Tryz.prog w0 58 [.agg #[.bool (decide (r.num < 0)),v1,.bool (decide ((r.den:Int) < 0)),v2],.agg #[.bool (decide (s.num < 0)),v3,.bool (decide ((s.den:Int) < 0)),v4]] As fun u Bs=>u=.int .i64 (ordQ r s)∧Bs=As:=by
  obtain ⟨l1,l2⟩:=hr.qud
  obtain ⟨l3,l4⟩:=hs.qud
  rw [← Int.natAbs_natCast r.den] at l2
  rw [← Int.natAbs_natCast s.den] at l4
  have k1:=qud_len_mul r.num.natAbs (s.den:Int).natAbs
  rw [← Int.natAbs_mul] at k1
  have k2:=qud_len_mul s.num.natAbs (r.den:Int).natAbs
  rw [← Int.natAbs_mul] at k2
  refine CallsS.of_tri Tryz.func58 rfl Tryz.ntmps58 rfl ?_
  (repeat' first|(refine Ka ?_;first|refine Kb ?_|(refine Kc ?_;intro _))|refine Kd ?_|(refine Ki ?_;refine Kj ?_)|exact Kk|refine Kl ?_ ?_|(refine Km ?_;first|refine Kn ?_|(refine Ko ?_;intro _))|(refine Kp ?_;first|refine Kq ?_|refine Kr ?_)|refine Kh ?_)
  rename_i b2 b3
  refine Tri.dw [.cl b2 [.bool (decide (r.num < 0)),v1,.bool (decide ((r.den:Int) < 0)),v2] 117,.cl b3 [.bool (decide (s.num < 0)),v3,.bool (decide ((s.den:Int) < 0)),v4] 117] [] (.take 0 (.take 1 (.take 2 (.take 3 (.take 5 (.take 6 (.take 7 (.take 8 (.all [(4,.all [(9,.all [(10,.take 11 (.done))])])]))))))))) ?_
  (repeat' first|(refine Ka ?_;first|refine Kb ?_|(refine Kc ?_;intro _))|refine Kd ?_|(refine Ki ?_;refine Kj ?_)|exact Kk|refine Kl ?_ ?_|(refine Km ?_;first|refine Kn ?_|(refine Ko ?_;intro _))|(refine Kp ?_;first|refine Kq ?_|refine Kr ?_)|refine Kh ?_)
  refine T1.callv rfl rfl rfl rfl rfl (timesR_ok (v:=v1) (o:=v4) (x:=r.num) (y:=(s.den:Int)) (by omega) (by omega)) ?_
  rintro _ _ ⟨p1,c1,rfl,rfl⟩
  (repeat' first|(refine Ka ?_;first|refine Kb ?_|(refine Kc ?_;intro _))|refine Kd ?_|(refine Ki ?_;refine Kj ?_)|exact Kk|refine Kl ?_ ?_|(refine Km ?_;first|refine Kn ?_|(refine Ko ?_;intro _))|(refine Kp ?_;first|refine Kq ?_|refine Kr ?_)|refine Kh ?_)
  refine T1.callv rfl rfl rfl rfl rfl (timesR_ok (v:=v3) (o:=v2) (x:=s.num) (y:=(r.den:Int)) (by omega) (by omega)) ?_
  rintro _ _ ⟨p2,c2,rfl,rfl⟩
  (repeat' first|(refine Ka ?_;first|refine Kb ?_|(refine Kc ?_;intro _))|refine Kd ?_|(refine Ki ?_;refine Kj ?_)|exact Kk|refine Kl ?_ ?_|(refine Km ?_;first|refine Kn ?_|(refine Ko ?_;intro _))|(refine Kp ?_;first|refine Kq ?_|refine Kr ?_)|refine Kh ?_)
  refine T1.callv rfl rfl rfl rfl rfl (orderP_ok (v:=.slice p1 (qud (r.num * (s.den:Int)).natAbs).length c1) (o:=.slice p2 (qud (s.num * (r.den:Int)).natAbs).length c2) (x:=r.num * (s.den:Int)) (y:=s.num * (r.den:Int)) (by omega) (by omega)) ?_
  rintro _ _ ⟨rfl,rfl⟩
  (repeat' first|(refine Ka ?_;first|refine Kb ?_|(refine Kc ?_;intro _))|refine Kd ?_|(refine Ki ?_;refine Kj ?_)|exact Kk|refine Kl ?_ ?_|(refine Km ?_;first|refine Kn ?_|(refine Ko ?_;intro _))|(refine Kp ?_;first|refine Kq ?_|refine Kr ?_)|refine Kh ?_)
  (refine Post.ra ?_)
  exact ⟨_,⟨rfl,rfl⟩,by (exact Ents.au)⟩
theorem cmp02_ok {r s:Rat} (hr:Fit 600 r) (hs:Fit 600 s):CallsS Tryz.prog w0 26 [.agg #[.string ⟨(tN r).toArray⟩,.string ⟨(tD r).toArray⟩],.agg #[.string ⟨(tN s).toArray⟩,.string ⟨(tD s).toArray⟩]] As fun u Bs=>u=.tuple #[.int .i64 (ordQ r s),.int .i64 0]∧Bs=As:=by
  refine CallsS.of_tri Tryz.func26 rfl Tryz.ntmps26 rfl ?_
  (repeat' first|(refine Ka ?_;first|refine Kb ?_|(refine Kc ?_;intro _))|refine Kd ?_|(refine Ki ?_;refine Kj ?_)|exact Kk|refine Kl ?_ ?_|(refine Km ?_;first|refine Kn ?_|(refine Ko ?_;intro _))|(refine Kp ?_;first|refine Kq ?_|refine Kr ?_)|refine Kh ?_)
  refine TL.callv rfl rfl rfl rfl (right02_ok hr) ?_
  rintro _ _ ⟨rfl,rfl⟩
  (repeat' first|(refine Ka ?_;first|refine Kb ?_|(refine Kc ?_;intro _))|refine Kd ?_|(refine Ki ?_;refine Kj ?_)|exact Kk|refine Kl ?_ ?_|(refine Km ?_;first|refine Kn ?_|(refine Ko ?_;intro _))|(refine Kp ?_;first|refine Kq ?_|refine Kr ?_)|refine Kh ?_)
  refine TL.callv rfl rfl rfl rfl (right02_ok hs) ?_
  rintro _ _ ⟨rfl,rfl⟩
  (repeat' first|(refine Ka ?_;first|refine Kb ?_|(refine Kc ?_;intro _))|refine Kd ?_|(refine Ki ?_;refine Kj ?_)|exact Kk|refine Kl ?_ ?_|(refine Km ?_;first|refine Kn ?_|(refine Ko ?_;intro _))|(refine Kp ?_;first|refine Kq ?_|refine Kr ?_)|refine Kh ?_)
  rename_i b2 b3
  refine Tri.dw [.cl b2 [.string ⟨(tN r).toArray⟩,.string ⟨(tD r).toArray⟩] 49,.cl b3 [.string ⟨(tN s).toArray⟩,.string ⟨(tD s).toArray⟩] 49] [] (.take 0 (.take 2 (.all [(1,.all [(3,.all [(4,.take 5 (.take 6 (.done)))])])]))) ?_
  (repeat' first|(refine Ka ?_;first|refine Kb ?_|(refine Kc ?_;intro _))|refine Kd ?_|(refine Ki ?_;refine Kj ?_)|exact Kk|refine Kl ?_ ?_|(refine Km ?_;first|refine Kn ?_|(refine Ko ?_;intro _))|(refine Kp ?_;first|refine Kq ?_|refine Kr ?_)|refine Kh ?_)
  refine T1.callv rfl rfl rfl rfl rfl (in02_ok hr) ?_
  rintro _ _ ⟨p1,c1,p2,c2,rfl,rfl⟩
  (repeat' first|(refine Ka ?_;first|refine Kb ?_|(refine Kc ?_;intro _))|refine Kd ?_|(refine Ki ?_;refine Kj ?_)|exact Kk|refine Kl ?_ ?_|(refine Km ?_;first|refine Kn ?_|(refine Ko ?_;intro _))|(refine Kp ?_;first|refine Kq ?_|refine Kr ?_)|refine Kh ?_)
  refine T1.callv rfl rfl rfl rfl rfl (in02_ok hs) ?_
  rintro _ _ ⟨p3,c3,p4,c4,rfl,rfl⟩
  (repeat' first|(refine Ka ?_;first|refine Kb ?_|(refine Kc ?_;intro _))|refine Kd ?_|(refine Ki ?_;refine Kj ?_)|exact Kk|refine Kl ?_ ?_|(refine Km ?_;first|refine Kn ?_|(refine Ko ?_;intro _))|(refine Kp ?_;first|refine Kq ?_|refine Kr ?_)|refine Kh ?_)
  refine T1.callv rfl rfl rfl rfl rfl (order02_ok (v1:=.slice p1 (qud r.num.natAbs).length c1) (v2:=.slice p2 (qud (r.den:Int).natAbs).length c2) (v3:=.slice p3 (qud s.num.natAbs).length c3) (v4:=.slice p4 (qud (s.den:Int).natAbs).length c4) hr hs) ?_
  rintro _ _ ⟨rfl,rfl⟩
  (repeat' first|(refine Ka ?_;first|refine Kb ?_|(refine Kc ?_;intro _))|refine Kd ?_|(refine Ki ?_;refine Kj ?_)|exact Kk|refine Kl ?_ ?_|(refine Km ?_;first|refine Kn ?_|(refine Ko ?_;intro _))|(refine Kp ?_;first|refine Kq ?_|refine Kr ?_)|refine Kh ?_)
  (refine Post.ra ?_)
  exact ⟨_,⟨rfl,rfl⟩,by (exact Ents.au)⟩
end Go.Proofs.YtgapnfaakdjpaaaGreatDoor
namespace Go.Sx
open Go
def thrM (a b c n v:V3):Option Rat :=
  if (det3 v a b < 0∨det3 v b c < 0∨det3 v c a < 0)∧(0 < det3 v a b∨0 < det3 v b c∨0 < det3 v c a) then none
  else if 0≤qI (n.dot a) (n.dot v) then some (qI (n.dot a) (n.dot v)) else none
def alongM (s:Spn) (k:Nat) (n a b c v:V3):Option Rat:=((cut3R s k n a b c v).bind fun t=>if t.ne then some t else none).map (·.low)
theorem cutW_zero {s:Spn} {w:Int} (h:¬ 0 < w):cutR s (-w) 0=some s:=by unfold cutR;rw [if_pos rfl,if_pos (by omega)]
theorem cutW_none {s:Spn} {w:Int} (h:0 < w):cutR s (-w) 0=none:=by unfold cutR;rw [if_pos rfl,if_neg (by omega)]
theorem cutW_low {s:Spn} {w v:Int} (h:0 < v) (hl:s.low < qI w v):cutR s (-w) v=some { s with low:=qI w v }:=by
  unfold cutR cutV;rw [if_neg (by omega),Int.neg_neg,if_pos ⟨h,hl⟩]
theorem cutW_lowN {s:Spn} {w v:Int} (h:0 < v) (hl:¬ s.low < qI w v):cutR s (-w) v=some s:=by
  unfold cutR cutV;rw [if_neg (by omega),Int.neg_neg,if_neg (fun k=>hl k.2),if_neg (by omega)]
theorem cutW_high {s:Spn} {w v:Int} (h:v < 0) (hl:s.opn=true∨qI w v < s.high):cutR s (-w) v=some { s with high:=qI w v,opn:=false }:=by
  unfold cutR cutV;rw [if_neg (by omega),Int.neg_neg,if_neg (by omega),if_pos ⟨h,hl⟩]
theorem cutW_highN {s:Spn} {w v:Int} (h:v < 0) (hl:¬ (s.opn=true∨qI w v < s.high)):cutR s (-w) v=some s:=by
  unfold cutR cutV;rw [if_neg (by omega),Int.neg_neg,if_neg (by omega),if_neg (fun k=>hl k.2)]
end Go.Sx
namespace Go.Proofs.YtgapnfaakdjpaaaGreatDoor
open Go Go.Sx
variable {w0:World} {As:List Ent}
theorem sign02_ok {r:Rat} (hr:Fit 600 r):CallsS Tryz.prog w0 138 [.agg #[.string ⟨(tN r).toArray⟩,.string ⟨(tD r).toArray⟩]] As fun u Bs=>u=.tuple #[.int .i64 (ordQ r 0),.int .i64 0]∧Bs=As:=by
  have hz:qI 0 1=0:=by decide +kernel
  refine CallsS.of_tri Tryz.func138 rfl Tryz.ntmps138 rfl ?_
  (repeat' first|(refine Ka ?_;first|refine Kb ?_|(refine Kc ?_;intro _))|refine Kd ?_|refine Kh ?_)
  refine TL.callv rfl rfl rfl rfl (right02_ok hr) ?_
  rintro _ _ ⟨rfl,rfl⟩
  (repeat' first|(refine Ka ?_;first|refine Kb ?_|(refine Kc ?_;intro _))|refine Kd ?_|refine Kh ?_)
  refine TL.callv rfl rfl rfl rfl (in02_ok hr) ?_
  rintro _ _ ⟨p1,c1,p2,c2,rfl,rfl⟩
  (repeat' first|(refine Ka ?_;first|refine Kb ?_|(refine Kc ?_;intro _))|refine Kd ?_|refine Kh ?_)
  refine TL.callv rfl rfl rfl rfl (quickS_ok (x:=0) (y:=1) (by decide) (by decide) (by decide)) ?_
  rw [hz]
  rintro _ _ ⟨p3,c3,p4,c4,rfl,rfl⟩
  (repeat' first|(refine Ka ?_;first|refine Kb ?_|(refine Kc ?_;intro _))|refine Kd ?_|refine Kh ?_)
  refine TL.callv rfl rfl rfl rfl (order02_ok (v1:=.slice p1 (qud r.num.natAbs).length c1) (v2:=.slice p2 (qud (r.den:Int).natAbs).length c2) (v3:=.slice p3 (qud (0:Rat).num.natAbs).length c3) (v4:=.slice p4 (qud ((0:Rat).den:Int).natAbs).length c4) (s:=0) hr (fit0.mono (by decide))) ?_
  rintro _ _ ⟨rfl,rfl⟩
  (repeat' first|(refine Ka ?_;first|refine Kb ?_|(refine Kc ?_;intro _))|refine Kd ?_|refine Kh ?_)
  (refine Post.ra ?_)
  exact ⟨_,⟨rfl,rfl⟩,by (exact Ents.au)⟩
theorem less36_ok {r s:Rat} (hr:Fit 19 r) (hs:Fit 19 s):CallsS Tryz.prog w0 54 [.agg #[.string ⟨(tN r).toArray⟩,.string ⟨(tD r).toArray⟩],.agg #[.string ⟨(tN s).toArray⟩,.string ⟨(tD s).toArray⟩]] As fun u Bs=>u=.bool (decide (r < s))∧Bs=As:=by
  have ho:=@ordQ_lt r s
  refine CallsS.of_tri Tryz.func54 rfl Tryz.ntmps54 rfl ?_
  (repeat' first|(refine Ka ?_;first|refine Kb ?_|(refine Kc ?_;intro _))|refine Kd ?_|refine Kh ?_)
  refine TL.callv rfl rfl rfl rfl (cmp02_ok (hr.mono (by decide)) (hs.mono (by decide))) ?_
  rintro _ _ ⟨rfl,rfl⟩
  rw [show decide (r < s)=decide (ordQ r s < 0) from by rw [decide_eq_decide];exact ho.symm]
  generalize ordQ r s=q
  (repeat' first|(refine Ka ?_;first|refine Kb ?_|(refine Kc ?_;intro _))|refine Kd ?_|refine Kh ?_)
  (refine Post.ra ?_)
  exact ⟨_,⟨rfl,rfl⟩,by (exact Ents.au)⟩
set_option maxHeartbeats 4000000 in
theorem rthrough_ok {a b c n v:V3} (ha:a.in 400000) (hb:b.in 400000) (hc:c.in 400000) (hn:n.in 320000000000) (hv:v.in 400000) (h0:n.dot v≠0) :
    CallsS Tryz.prog w0 90 [a.val,b.val,c.val,n.val,v.val] As (MetR As (thrM a b c n v)):=by
  have g1:=det_in (l:=400000) (m:=400000) (n:=400000) (by decide) (by decide) (by decide) hv ha hb
  have g2:=det_in (l:=400000) (m:=400000) (n:=400000) (by decide) (by decide) (by decide) hv hb hc
  have g3:=det_in (l:=400000) (m:=400000) (n:=400000) (by decide) (by decide) (by decide) hv hc ha
  have b1:-9223372036854775807≤n.dot a∧n.dot a≤9223372036854775807:=by have:=dot_in3 (by decide) (by decide) hn ha;simp only [V3.dot];omega
  have b2:-9223372036854775807≤n.dot v∧n.dot v≤9223372036854775807:=by have:=dot_in3 (by decide) (by decide) hn hv;simp only [V3.dot];omega
  have k1:=fun Bs=>rdet_ok (w0:=w0) (As:=Bs) hv ha hb (by decide) (by decide) (by decide) (by decide) (by decide)
  have k2:=fun Bs=>rdet_ok (w0:=w0) (As:=Bs) hv hb hc (by decide) (by decide) (by decide) (by decide) (by decide)
  have k3:=fun Bs=>rdet_ok (w0:=w0) (As:=Bs) hv hc ha (by decide) (by decide) (by decide) (by decide) (by decide)
  have d1:=fun Bs=>dotR_ok (w0:=w0) (As:=Bs) hn ha (by decide) (by decide) (by decide)
  have d2:=fun Bs=>dotR_ok (w0:=w0) (As:=Bs) hn hv (by decide) (by decide) (by decide)
  refine CallsS.of_tri Tryz.func90 rfl Tryz.ntmps90 rfl ?_
  show Tri _ _ _ _ (env0 0 [.agg #[.int .i64 a.x,.int .i64 a.y,.int .i64 a.z],.agg #[.int .i64 b.x,.int .i64 b.y,.int .i64 b.z],.agg #[.int .i64 c.x,.int .i64 c.y,.int .i64 c.z],.agg #[.int .i64 n.x,.int .i64 n.y,.int .i64 n.z],.agg #[.int .i64 v.x,.int .i64 v.y,.int .i64 v.z]]) _ _
  unfold thrM
  (repeat' first|(refine Ka ?_;first|refine Kb ?_|(refine Kc ?_;intro _))|refine Kd ?_|refine Kh ?_)
  rename_i e5 e6 e7 e8 e9 e10
  generalize det3 v a b=x at *
  generalize det3 v b c=y at *
  generalize det3 v c a=z at *
  generalize hda:n.dot a=da at *
  generalize hdv:n.dot v=dv at *
  refine Tri.mid (fun e' As'=>e'=[(5,.pointer (some ⟨e5,0,none⟩)),(8,.pointer (some ⟨e8,0,none⟩)),(9,.pointer (some ⟨e9,0,none⟩)),(10,.pointer (some ⟨e10,0,none⟩)),(12,.int .i64 x),(13,.int .i64 y),(14,.int .i64 z)] ∧
    As'=.cl e5 [.int .i64 a.x,.int .i64 a.y,.int .i64 a.z] 31::.cl e8 [.int .i64 n.x,.int .i64 n.y,.int .i64 n.z] 31::.cl e9 [.int .i64 v.x,.int .i64 v.y,.int .i64 v.z] 31::.cl e10 [.string ⟨#[]⟩,.string ⟨#[]⟩] 49::As) ?_ ?_
  · refine Tri.dw [.cl e5 [.int .i64 a.x,.int .i64 a.y,.int .i64 a.z] 31,.cl e6 [.int .i64 b.x,.int .i64 b.y,.int .i64 b.z] 31,.cl e7 [.int .i64 c.x,.int .i64 c.y,.int .i64 c.z] 31,.cl e9 [.int .i64 v.x,.int .i64 v.y,.int .i64 v.z] 31] [] (.take 0 (.take 1 (.take 2 (.take 4 (.take 5 (.take 6 (.take 8 (.take 9 (.take 10 (.all [(3,.all [(7,.all [(11,.take 12 (.take 13 (.take 14 (.done))))])])])))))))))) ?_
    (repeat' first|(refine Ka ?_;first|refine Kb ?_|(refine Kc ?_;intro _))|refine Kd ?_|(refine Ki ?_;refine Kj ?_)|exact Kk|refine Kl ?_ ?_|(refine Km ?_;first|refine Kn ?_|(refine Ko ?_;intro _))|(refine Kp ?_;first|refine Kq ?_|refine Kr ?_)|refine Kh ?_)
    refine T1.callv rfl rfl rfl rfl rfl (k1 _) ?_
    rintro _ _ ⟨rfl,rfl⟩
    (repeat' first|(refine Ka ?_;first|refine Kb ?_|(refine Kc ?_;intro _))|refine Kd ?_|(refine Ki ?_;refine Kj ?_)|exact Kk|refine Kl ?_ ?_|(refine Km ?_;first|refine Kn ?_|(refine Ko ?_;intro _))|(refine Kp ?_;first|refine Kq ?_|refine Kr ?_)|refine Kh ?_)
    refine T1.callv rfl rfl rfl rfl rfl (k2 _) ?_
    rintro _ _ ⟨rfl,rfl⟩
    (repeat' first|(refine Ka ?_;first|refine Kb ?_|(refine Kc ?_;intro _))|refine Kd ?_|(refine Ki ?_;refine Kj ?_)|exact Kk|refine Kl ?_ ?_|(refine Km ?_;first|refine Kn ?_|(refine Ko ?_;intro _))|(refine Kp ?_;first|refine Kq ?_|refine Kr ?_)|refine Kh ?_)
    refine T1.callv rfl rfl rfl rfl rfl (k3 _) ?_
    rintro _ _ ⟨rfl,rfl⟩
    (repeat' first|(refine Ka ?_;first|refine Kb ?_|(refine Kc ?_;intro _))|refine Kd ?_|(refine Ki ?_;refine Kj ?_)|exact Kk|refine Kl ?_ ?_|(refine Km ?_;first|refine Kn ?_|(refine Ko ?_;intro _))|(refine Kp ?_;first|refine Kq ?_|refine Kr ?_)|refine Kh ?_)
    exact Post.cut _ _ ⟨rfl,rfl⟩ (by (exact Sub.au)) (by (exact Ents.au))
  rintro _ _ ⟨rfl,rfl⟩
  clear k1 k2 k3
  refine Post.then_normal ?_
  refine Tri.cut (fun e' As'=>¬ ((x < 0∨y < 0∨z < 0)∧(0 < x∨0 < y∨0 < z))∧e'=[(5,.pointer (some ⟨e5,0,none⟩)),(8,.pointer (some ⟨e8,0,none⟩)),(9,.pointer (some ⟨e9,0,none⟩)),(10,.pointer (some ⟨e10,0,none⟩))] ∧
    As'=.cl e5 [.int .i64 a.x,.int .i64 a.y,.int .i64 a.z] 31::.cl e8 [.int .i64 n.x,.int .i64 n.y,.int .i64 n.z] 31::.cl e9 [.int .i64 v.x,.int .i64 v.y,.int .i64 v.z] 31::.cl e10 [.string ⟨#[]⟩,.string ⟨#[]⟩] 49::As) ?_ ?_
  · clear d1 d2 h0 b1 b2
    rcases Int.lt_trichotomy x 0 with i1|i1|i1
    all_goals rcases Int.lt_trichotomy y 0 with i2|i2|i2
    all_goals rcases Int.lt_trichotomy z 0 with i3|i3|i3
    all_goals first
      | (rw [if_pos (by omega)]
         (repeat' first|(refine Ka ?_;first|refine Kb ?_|(refine Kc ?_;intro _))|refine Kd ?_|(refine Ki ?_;refine Kj ?_)|exact Kk|refine Kl ?_ ?_|(refine Km ?_;first|refine Kn ?_|(refine Ko ?_;intro _))|(refine Kp ?_;first|refine Kq ?_|refine Kr ?_)|refine Kh ?_)
         (refine Post.ra ?_)
         exact ⟨_,MetR.none (x:=[]) (y:=[]),by (exact Ents.au)⟩)
      | ((repeat' first|(refine Ka ?_;first|refine Kb ?_|(refine Kc ?_;intro _))|refine Kd ?_|(refine Ki ?_;refine Kj ?_)|exact Kk|refine Kl ?_ ?_|(refine Km ?_;first|refine Kn ?_|(refine Ko ?_;intro _))|(refine Kp ?_;first|refine Kq ?_|refine Kr ?_)|refine Kh ?_)
         exact Post.cut _ _ ⟨by omega,rfl,rfl⟩ (by (exact Sub.au)) (by (exact Ents.au)))
  rintro _ _ ⟨hm,rfl,rfl⟩
  rw [if_neg hm]
  clear hm
  have ho:=fun Bs=>ofRef_ok (w0:=w0) (As:=Bs) (n:=da) (d:=dv) (by omega) (by omega) h0
  have hf:Fit 19 (qI da dv):=fit_qI (by omega) (by omega) h0
  clear g1 g2 g3
  generalize qI da dv=t at *
  refine Tri.cut (fun e' As'=>∃ e15,e'=[(10,.pointer (some ⟨e10,0,none⟩)),(15,.pointer (some ⟨e15,0,none⟩))]∧As'=.cl e15 [.string ⟨(tN t).toArray⟩,.string ⟨(tD t).toArray⟩] 49::.cl e10 [.string ⟨#[]⟩,.string ⟨#[]⟩] 49::As) ?_ ?_
  · refine Tri.dw [.cl e5 [.int .i64 a.x,.int .i64 a.y,.int .i64 a.z] 31,.cl e8 [.int .i64 n.x,.int .i64 n.y,.int .i64 n.z] 31,.cl e9 [.int .i64 v.x,.int .i64 v.y,.int .i64 v.z] 31] [] (.take 0 (.take 1 (.take 3 (.take 4 (.all [(2,.all [(5,.all [(6,.take 7 (.take 8 (.take 9 (.all [(10,.all [(11,.take 12 (.done))])])))),(10,.all [(6,.take 7 (.take 8 (.take 9 (.all [(11,.take 12 (.done))]))))])]),(10,.all [(5,.all [(6,.take 7 (.take 8 (.take 9 (.all [(11,.take 12 (.done))]))))])])]),(10,.all [(2,.all [(5,.all [(6,.take 7 (.take 8 (.take 9 (.all [(11,.take 12 (.done))]))))])])])]))))) ?_
    (repeat' first|(refine Ka ?_;first|refine Kb ?_|(refine Kc ?_;intro _))|refine Kd ?_|(refine Ki ?_;refine Kj ?_)|exact Kk|refine Kl ?_ ?_|(refine Km ?_;first|refine Kn ?_|(refine Ko ?_;intro _))|(refine Kp ?_;first|refine Kq ?_|refine Kr ?_)|refine Kh ?_)
    repeat' (first|(refine T1.callv rfl rfl rfl rfl rfl (d1 _) ?_;rintro _ _ ⟨rfl,rfl⟩;(repeat' first|(refine Ka ?_;first|refine Kb ?_|(refine Kc ?_;intro _))|refine Kd ?_|(refine Ki ?_;refine Kj ?_)|exact Kk|refine Kl ?_ ?_|(refine Km ?_;first|refine Kn ?_|(refine Ko ?_;intro _))|(refine Kp ?_;first|refine Kq ?_|refine Kr ?_)|refine Kh ?_))|(refine T1.callv rfl rfl rfl rfl rfl (d2 _) ?_;rintro _ _ ⟨rfl,rfl⟩;(repeat' first|(refine Ka ?_;first|refine Kb ?_|(refine Kc ?_;intro _))|refine Kd ?_|(refine Ki ?_;refine Kj ?_)|exact Kk|refine Kl ?_ ?_|(refine Km ?_;first|refine Kn ?_|(refine Ko ?_;intro _))|(refine Kp ?_;first|refine Kq ?_|refine Kr ?_)|refine Kh ?_))|(refine T1.callv rfl rfl rfl rfl rfl (ho _) ?_;rintro _ _ ⟨rfl,rfl⟩;(repeat' first|(refine Ka ?_;first|refine Kb ?_|(refine Kc ?_;intro _))|refine Kd ?_|(refine Ki ?_;refine Kj ?_)|exact Kk|refine Kl ?_ ?_|(refine Km ?_;first|refine Kn ?_|(refine Ko ?_;intro _))|(refine Kp ?_;first|refine Kq ?_|refine Kr ?_)|refine Kh ?_)))
    all_goals exact Post.cut _ _ ⟨_,rfl,rfl⟩ (by (exact Sub.au)) (by (exact Ents.au))
  rintro _ _ ⟨e15,rfl,rfl⟩
  have hor:=@ordQ_lt t 0
  (repeat' first|(refine Ka ?_;first|refine Kb ?_|(refine Kc ?_;intro _))|refine Kd ?_|(refine Ki ?_;refine Kj ?_)|exact Kk|refine Kl ?_ ?_|(refine Km ?_;first|refine Kn ?_|(refine Ko ?_;intro _))|(refine Kp ?_;first|refine Kq ?_|refine Kr ?_)|refine Kh ?_)
  refine TL.callv rfl rfl rfl rfl (sign02_ok (hf.mono (by decide))) ?_
  rintro _ _ ⟨rfl,rfl⟩
  generalize ordQ t 0=q at *
  by_cases h:0≤t
  · have hq:0≤q:=by
      have:¬ q < 0:=fun k=>Rat.not_lt.2 h (hor.1 k)
      omega
    rw [if_pos h]
    (repeat' first|(refine Ka ?_;first|refine Kb ?_|(refine Kc ?_;intro _))|refine Kd ?_|(refine Ki ?_;refine Kj ?_)|exact Kk|refine Kl ?_ ?_|(refine Km ?_;first|refine Kn ?_|(refine Ko ?_;intro _))|(refine Kp ?_;first|refine Kq ?_|refine Kr ?_)|refine Kh ?_)
    (refine Post.ra ?_)
    refine ⟨As,?_,by (exact Ents.au)⟩
    rw [decide_eq_true hq]
    exact MetR.some (t:=t)
  · have hq:¬ 0≤q:=by
      have:=hor.2 (Rat.not_le.1 h)
      omega
    rw [if_neg h]
    (repeat' first|(refine Ka ?_;first|refine Kb ?_|(refine Kc ?_;intro _))|refine Kd ?_|refine Kh ?_)
    (refine Post.ra ?_)
    refine ⟨As,?_,by (exact Ents.au)⟩
    rw [decide_eq_false hq]
    exact MetR.none (x:=tN t) (y:=tD t)
theorem cross_backP (k:Nat) (a b:V3):((b.sub a).cross a).proj k=-(a.cross b).proj k:=by
  unfold V3.proj
  split
  · simp only [V3.cross,V3.sub];grind
  · split<;>(simp only [V3.cross,V3.sub];grind)
theorem in_proj {v:V3} {m:Int} (h:v.in m) (k:Nat):-m≤v.proj k∧v.proj k≤m:=by
  obtain ⟨h1,h2,h3,h4,h5,h6⟩:=h
  unfold V3.proj
  split
  · exact ⟨h1,h2⟩
  · split
    · exact ⟨h3,h4⟩
    · exact ⟨h5,h6⟩
theorem proj_at (v:V3) {k:Nat} (h:k < 3):([.int .i64 v.x,.int .i64 v.y,.int .i64 v.z]:List Value)[k]?=some (.int .i64 (v.proj k)):=by
  have:k=0∨k=1∨k=2:=by omega
  rcases this with rfl|rfl|rfl<;>rfl
end Go.Proofs.YtgapnfaakdjpaaaGreatDoor

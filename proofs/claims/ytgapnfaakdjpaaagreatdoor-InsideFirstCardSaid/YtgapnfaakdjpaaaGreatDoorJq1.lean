/- Walks: the reference on fractions: which are valid, reading, comparing. -/
import Derived.Test.YtgapnfaakdjpaaaGreatDoorCd1
import Derived.Test.YtgapnfaakdjpaaaGreatDoorIx1
import Derived.Test.YtgapnfaakdjpaaaGreatDoorVb1
import Derived.Test.YtgapnfaakdjpaaaGreatDoorCc1
namespace Go.Sx
open Go
theorem textI_one':textI 1=[49]:=by rw [textI_eq,if_neg (by omega)];exact dec_small (by decide)
end Go.Sx
namespace Go.Proofs.YtgapnfaakdjpaaaGreatDoor
open Go Go.Sx
variable {w0:World} {As:List Ent}
theorem right02_ok {r:Rat} (hr:Fit 600 r):CallsS Tryz.prog w0 57 [.agg #[.string ⟨(tN r).toArray⟩,.string ⟨(tD r).toArray⟩]] As fun u Bs=>u=.bool true∧Bs=As:=by
  have r1:readW (tN r)=some r.num:=readW_text hr.1
  have r2:readW (tD r)=some (r.den:Int):=readW_text (by rw [Int.natAbs_natCast];exact hr.2)
  obtain ⟨l1,l2⟩:=hr.qud
  have l3:(qud (r.den:Int).natAbs).length≤600:=by rw [Int.natAbs_natCast];exact l2
  have hl0:(qud (r.den:Int).natAbs).length≠0:=by
    intro h
    have h1:valQ (qud (r.den:Int).natAbs)=0:=by rw [List.length_eq_zero_iff.1 h];rfl
    rw [valQ_qud,Int.natAbs_natCast] at h1
    exact r.den_nz h1
  have hg:gcdI r.num (r.den:Int)=1:=by
    have:=r.reduced
    unfold Nat.Coprime at this
    unfold gcdI
    rw [Int.natAbs_natCast,this];rfl
  refine CallsS.of_tri Tryz.func57 rfl Tryz.ntmps57 rfl ?_
  (repeat' first|(refine Ka ?_;first|refine Kb ?_|(refine Kc ?_;intro _))|refine Kd ?_|refine Kh ?_)
  refine TL.call rfl rfl rfl (rightR_ok (s:=tN r) (tN_len hr)) ?_
  rintro _ _ ⟨rfl,rfl⟩
  rw [r1]
  (repeat' first|(refine Ka ?_;first|refine Kb ?_|(refine Kc ?_;intro _))|refine Kd ?_|refine Kh ?_)
  refine TL.call rfl rfl rfl (rightR_ok (s:=tD r) (tD_len hr)) ?_
  rintro _ _ ⟨rfl,rfl⟩
  rw [r2]
  (repeat' first|(refine Ka ?_;first|refine Kb ?_|(refine Kc ?_;intro _))|refine Kd ?_|refine Kh ?_)
  rename_i b1
  refine Tri.mid (fun e' As'=>∃ p c q d b3 b4,e'=[(1,.pointer (some ⟨b1,0,none⟩)),(2,.bool false),(3,.pointer (some ⟨b3,0,none⟩)),(4,.pointer (some ⟨b4,0,none⟩))] ∧
    As'=.cl b3 [.bool (decide (r.num < 0)),.slice p (qud r.num.natAbs).length c] 115::.cl b4 [.bool (decide ((r.den:Int) < 0)),.slice q (qud (r.den:Int).natAbs).length d] 115 ::
      .ft (rd (cN .i64) (.slice p (qud r.num.natAbs).length c) (qud r.num.natAbs))::.ft (rd (cN .i64) (.slice q (qud (r.den:Int).natAbs).length d) (qud (r.den:Int).natAbs))::As) ?_ ?_
  · refine Tri.dw [.cl b1 [.string ⟨(tN r).toArray⟩,.string ⟨(tD r).toArray⟩] 49] [] (.take 0 (.take 1 (.take 3 (.take 4 (.all [(2,.all [(5,.all [(6,.all [(7,.all [(8,.all [(9,.done)])])]),(7,.all [(6,.all [(8,.all [(9,.done)])])])]),(6,.all [(5,.all [(7,.all [(8,.all [(9,.done)])])]),(7,.all [(5,.all [(8,.all [(9,.done)])])])]),(7,.all [(5,.all [(6,.all [(8,.all [(9,.done)])])]),(6,.all [(5,.all [(8,.all [(9,.done)])])])])]),(6,.all [(2,.all [(5,.all [(7,.all [(8,.all [(9,.done)])])]),(7,.all [(5,.all [(8,.all [(9,.done)])])])]),(7,.all [(2,.all [(5,.all [(8,.all [(9,.done)])])])])]),(7,.all [(2,.all [(5,.all [(6,.all [(8,.all [(9,.done)])])]),(6,.all [(5,.all [(8,.all [(9,.done)])])])]),(6,.all [(2,.all [(5,.all [(8,.all [(9,.done)])])])])])]))))) ?_
    (repeat' first|(refine Ka ?_;first|refine Kb ?_|(refine Kc ?_;intro _))|refine Kd ?_|(refine Ki ?_;refine Kj ?_)|exact Kk|refine Kl ?_ ?_|(refine Km ?_;first|refine Kn ?_|(refine Ko ?_;intro _))|(refine Kp ?_;first|refine Kq ?_|refine Kr ?_)|refine Kh ?_)
    repeat' (first|(refine T1.callv rfl rfl rfl rfl rfl (inR_ok r1) ?_;rintro _ _ ⟨p1,c1,rfl,rfl⟩;(repeat' first|(refine Ka ?_;first|refine Kb ?_|(refine Kc ?_;intro _))|refine Kd ?_|(refine Ki ?_;refine Kj ?_)|exact Kk|refine Kl ?_ ?_|(refine Km ?_;first|refine Kn ?_|(refine Ko ?_;intro _))|(refine Kp ?_;first|refine Kq ?_|refine Kr ?_)|refine Kh ?_))|(refine T1.callv rfl rfl rfl rfl rfl (inR_ok r2) ?_;rintro _ _ ⟨p2,c2,rfl,rfl⟩;(repeat' first|(refine Ka ?_;first|refine Kb ?_|(refine Kc ?_;intro _))|refine Kd ?_|(refine Ki ?_;refine Kj ?_)|exact Kk|refine Kl ?_ ?_|(refine Km ?_;first|refine Kn ?_|(refine Ko ?_;intro _))|(refine Kp ?_;first|refine Kq ?_|refine Kr ?_)|refine Kh ?_)))
    all_goals exact Post.cut _ _ ⟨p1,c1,p2,c2,_,_,rfl,rfl⟩ (by (exact Sub.au)) (by (exact Ents.au))
  rintro _ _ ⟨p,c,q,d,b3,b4,rfl,rfl⟩
  rw [show decide ((r.den:Int) < 0)=false from decide_eq_false (by omega)]
  have hl1:((qud (r.den:Int).natAbs).length:Int)≠0:=by omega
  (repeat' first|(refine Ka ?_;first|refine Kb ?_|(refine Kc ?_;intro _))|refine Kd ?_|(refine Ki ?_;refine Kj ?_)|exact Kk|refine Kl ?_ ?_|(refine Km ?_;first|refine Kn ?_|(refine Ko ?_;intro _))|(refine Kp ?_;first|refine Kq ?_|refine Kr ?_)|refine Kh ?_)
  have hdv:=fun Bs [FtIn Bs (.slice p (qud r.num.natAbs).length c) Nat (cN .i64) (qud r.num.natAbs)] [FtIn Bs (.slice q (qud (r.den:Int).natAbs).length d) Nat (cN .i64) (qud (r.den:Int).natAbs)]=>divisorR_ok (w0:=w0) (As:=Bs) (v:=.slice p (qud r.num.natAbs).length c) (o:=.slice q (qud (r.den:Int).natAbs).length d) (x:=r.num) (y:=(r.den:Int)) (by omega) (by omega)
  rw [show decide ((r.den:Int) < 0)=false from decide_eq_false (by omega),hg] at hdv
  refine TL.callv rfl rfl rfl rfl (hdv _) ?_
  rintro _ _ ⟨q3,d3,rfl,rfl⟩
  (repeat' first|(refine Ka ?_;first|refine Kb ?_|(refine Kc ?_;intro _))|refine Kd ?_|(refine Ki ?_;refine Kj ?_)|exact Kk|refine Kl ?_ ?_|(refine Km ?_;first|refine Kn ?_|(refine Ko ?_;intro _))|(refine Kp ?_;first|refine Kq ?_|refine Kr ?_)|refine Kh ?_)
  refine TL.call rfl rfl rfl (textR_ok (z:=1) (Nat.le_trans (qud_len_lt (k:=1) (by decide)) (by decide))) ?_
  rintro _ _ ⟨rfl,rfl⟩
  rw [textI_one']
  (repeat' first|(refine Ka ?_;first|refine Kb ?_|(refine Kc ?_;intro _))|refine Kd ?_|(refine Ki ?_;refine Kj ?_)|exact Kk|refine Kl ?_ ?_|(refine Km ?_;first|refine Kn ?_|(refine Ko ?_;intro _))|(refine Kp ?_;first|refine Kq ?_|refine Kr ?_)|refine Kh ?_)
  (refine Post.ra ?_)
  exact ⟨_,⟨rfl,rfl⟩,by (exact Ents.au)⟩
theorem in02_ok {r:Rat} (hr:Fit 600 r):CallsS Tryz.prog w0 59 [.agg #[.string ⟨(tN r).toArray⟩,.string ⟨(tD r).toArray⟩]] As (Q.RatP As r):=by
  have r1:readW (tN r)=some r.num:=readW_text hr.1
  have r2:readW (tD r)=some (r.den:Int):=readW_text (by rw [Int.natAbs_natCast];exact hr.2)
  refine CallsS.of_tri Tryz.func59 rfl Tryz.ntmps59 rfl ?_
  (repeat' first|(refine Ka ?_;first|refine Kb ?_|(refine Kc ?_;intro _))|refine Kd ?_|refine Kh ?_)
  rename_i b1 b2
  refine Tri.dw [.cl b1 [.string ⟨(tN r).toArray⟩,.string ⟨(tD r).toArray⟩] 49] [] (.take 0 (.take 1 (.take 3 (.take 4 (.all [(2,.all [(5,.take 6 (.all [(7,.done)]))])]))))) ?_
  (repeat' first|(refine Ka ?_;first|refine Kb ?_|(refine Kc ?_;intro _))|refine Kd ?_|(refine Ki ?_;refine Kj ?_)|exact Kk|refine Kl ?_ ?_|(refine Km ?_;first|refine Kn ?_|(refine Ko ?_;intro _))|(refine Kp ?_;first|refine Kq ?_|refine Kr ?_)|refine Kh ?_)
  refine T1.callv rfl rfl rfl rfl rfl (inR_ok r1) ?_
  rintro _ _ ⟨p1,c1,rfl,rfl⟩
  (repeat' first|(refine Ka ?_;first|refine Kb ?_|(refine Kc ?_;intro _))|refine Kd ?_|(refine Ki ?_;refine Kj ?_)|exact Kk|refine Kl ?_ ?_|(refine Km ?_;first|refine Kn ?_|(refine Ko ?_;intro _))|(refine Kp ?_;first|refine Kq ?_|refine Kr ?_)|refine Kh ?_)
  refine T1.callv rfl rfl rfl rfl rfl (inR_ok r2) ?_
  rintro _ _ ⟨p2,c2,rfl,rfl⟩
  (repeat' first|(refine Ka ?_;first|refine Kb ?_|(refine Kc ?_;intro _))|refine Kd ?_|(refine Ki ?_;refine Kj ?_)|exact Kk|refine Kl ?_ ?_|(refine Km ?_;first|refine Kn ?_|(refine Ko ?_;intro _))|(refine Kp ?_;first|refine Kq ?_|refine Kr ?_)|refine Kh ?_)
  (refine Post.ra ?_)
  exact ⟨_,⟨p1,c1,p2,c2,rfl,rfl⟩,by (exact Ents.au)⟩
theorem order02_ok {v1 v2 v3 v4:Value} {r s:Rat} [RdIn As v1 Nat (cN .i64) (qud r.num.natAbs)] [RdIn As v2 Nat (cN .i64) (qud (r.den:Int).natAbs)] [RdIn As v3 Nat (cN .i64) (qud s.num.natAbs)] [RdIn As v4 Nat (cN .i64) (qud (s.den:Int).natAbs)] (hr:Fit 600 r) (hs:Fit 600 s) :
    CallsS Tryz.prog w0 58 [.agg #[.bool (decide (r.num < 0)),v1,.bool (decide ((r.den:Int) < 0)),v2],.agg #[.bool (decide (s.num < 0)),v3,.bool (decide ((s.den:Int) < 0)),v4]] As fun u Bs=>u=.int .i64 (ordQ r s)∧Bs=As:=by
  obtain ⟨l1,l2⟩:=hr.qud
  obtain ⟨l3,l4⟩:=hs.qud
  rw [← Int.natAbs_natCast r.den] at l2
  rw [← Int.natAbs_natCast s.den] at l4
  have k1:=qud_len_mul r.num.natAbs (s.den:Int).natAbs
  rw [← Int.natAbs_mul] at k1
  have k2:=qud_len_mul s.num.natAbs (r.den:Int).natAbs
  rw [← Int.natAbs_mul] at k2
  refine CallsS.of_tri Tryz.func58 rfl Tryz.ntmps58 rfl ?_
  (repeat' first|(refine Ka ?_;first|refine Kb ?_|(refine Kc ?_;intro _))|refine Kd ?_|(refine Ki ?_;refine Kj ?_)|exact Kk|refine Kl ?_ ?_|(refine Km ?_;first|refine Kn ?_|(refine Ko ?_;intro _))|(refine Kp ?_;first|refine Kq ?_|refine Kr ?_)|refine Kh ?_)
  rename_i b2 b3
  refine Tri.dw [.cl b2 [.bool (decide (r.num < 0)),v1,.bool (decide ((r.den:Int) < 0)),v2] 117,.cl b3 [.bool (decide (s.num < 0)),v3,.bool (decide ((s.den:Int) < 0)),v4] 117] [] (.take 0 (.take 1 (.take 2 (.take 3 (.take 5 (.take 6 (.take 7 (.take 8 (.all [(4,.all [(9,.all [(10,.take 11 (.done))])])]))))))))) ?_
  (repeat' first|(refine Ka ?_;first|refine Kb ?_|(refine Kc ?_;intro _))|refine Kd ?_|(refine Ki ?_;refine Kj ?_)|exact Kk|refine Kl ?_ ?_|(refine Km ?_;first|refine Kn ?_|(refine Ko ?_;intro _))|(refine Kp ?_;first|refine Kq ?_|refine Kr ?_)|refine Kh ?_)
  refine T1.callv rfl rfl rfl rfl rfl (timesR_ok (v:=v1) (o:=v4) (x:=r.num) (y:=(s.den:Int)) (by omega) (by omega)) ?_
  rintro _ _ ⟨p1,c1,rfl,rfl⟩
  (repeat' first|(refine Ka ?_;first|refine Kb ?_|(refine Kc ?_;intro _))|refine Kd ?_|(refine Ki ?_;refine Kj ?_)|exact Kk|refine Kl ?_ ?_|(refine Km ?_;first|refine Kn ?_|(refine Ko ?_;intro _))|(refine Kp ?_;first|refine Kq ?_|refine Kr ?_)|refine Kh ?_)
  refine T1.callv rfl rfl rfl rfl rfl (timesR_ok (v:=v3) (o:=v2) (x:=s.num) (y:=(r.den:Int)) (by omega) (by omega)) ?_
  rintro _ _ ⟨p2,c2,rfl,rfl⟩
  (repeat' first|(refine Ka ?_;first|refine Kb ?_|(refine Kc ?_;intro _))|refine Kd ?_|(refine Ki ?_;refine Kj ?_)|exact Kk|refine Kl ?_ ?_|(refine Km ?_;first|refine Kn ?_|(refine Ko ?_;intro _))|(refine Kp ?_;first|refine Kq ?_|refine Kr ?_)|refine Kh ?_)
  refine T1.callv rfl rfl rfl rfl rfl (orderP_ok (v:=.slice p1 (qud (r.num * (s.den:Int)).natAbs).length c1) (o:=.slice p2 (qud (s.num * (r.den:Int)).natAbs).length c2) (x:=r.num * (s.den:Int)) (y:=s.num * (r.den:Int)) (by omega) (by omega)) ?_
  rintro _ _ ⟨rfl,rfl⟩
  (repeat' first|(refine Ka ?_;first|refine Kb ?_|(refine Kc ?_;intro _))|refine Kd ?_|(refine Ki ?_;refine Kj ?_)|exact Kk|refine Kl ?_ ?_|(refine Km ?_;first|refine Kn ?_|(refine Ko ?_;intro _))|(refine Kp ?_;first|refine Kq ?_|refine Kr ?_)|refine Kh ?_)
  (refine Post.ra ?_)
  exact ⟨_,⟨rfl,rfl⟩,by (exact Ents.au)⟩
theorem cmp02_ok {r s:Rat} (hr:Fit 600 r) (hs:Fit 600 s):CallsS Tryz.prog w0 26 [.agg #[.string ⟨(tN r).toArray⟩,.string ⟨(tD r).toArray⟩],.agg #[.string ⟨(tN s).toArray⟩,.string ⟨(tD s).toArray⟩]] As fun u Bs=>u=.tuple #[.int .i64 (ordQ r s),.int .i64 0]∧Bs=As:=by
  refine CallsS.of_tri Tryz.func26 rfl Tryz.ntmps26 rfl ?_
  (repeat' first|(refine Ka ?_;first|refine Kb ?_|(refine Kc ?_;intro _))|refine Kd ?_|(refine Ki ?_;refine Kj ?_)|exact Kk|refine Kl ?_ ?_|(refine Km ?_;first|refine Kn ?_|(refine Ko ?_;intro _))|(refine Kp ?_;first|refine Kq ?_|refine Kr ?_)|refine Kh ?_)
  refine TL.callv rfl rfl rfl rfl (right02_ok hr) ?_
  rintro _ _ ⟨rfl,rfl⟩
  (repeat' first|(refine Ka ?_;first|refine Kb ?_|(refine Kc ?_;intro _))|refine Kd ?_|(refine Ki ?_;refine Kj ?_)|exact Kk|refine Kl ?_ ?_|(refine Km ?_;first|refine Kn ?_|(refine Ko ?_;intro _))|(refine Kp ?_;first|refine Kq ?_|refine Kr ?_)|refine Kh ?_)
  refine TL.callv rfl rfl rfl rfl (right02_ok hs) ?_
  rintro _ _ ⟨rfl,rfl⟩
  (repeat' first|(refine Ka ?_;first|refine Kb ?_|(refine Kc ?_;intro _))|refine Kd ?_|(refine Ki ?_;refine Kj ?_)|exact Kk|refine Kl ?_ ?_|(refine Km ?_;first|refine Kn ?_|(refine Ko ?_;intro _))|(refine Kp ?_;first|refine Kq ?_|refine Kr ?_)|refine Kh ?_)
  rename_i b2 b3
  refine Tri.dw [.cl b2 [.string ⟨(tN r).toArray⟩,.string ⟨(tD r).toArray⟩] 49,.cl b3 [.string ⟨(tN s).toArray⟩,.string ⟨(tD s).toArray⟩] 49] [] (.take 0 (.take 2 (.all [(1,.all [(3,.all [(4,.take 5 (.take 6 (.done)))])])]))) ?_
  (repeat' first|(refine Ka ?_;first|refine Kb ?_|(refine Kc ?_;intro _))|refine Kd ?_|(refine Ki ?_;refine Kj ?_)|exact Kk|refine Kl ?_ ?_|(refine Km ?_;first|refine Kn ?_|(refine Ko ?_;intro _))|(refine Kp ?_;first|refine Kq ?_|refine Kr ?_)|refine Kh ?_)
  refine T1.callv rfl rfl rfl rfl rfl (in02_ok hr) ?_
  rintro _ _ ⟨p1,c1,p2,c2,rfl,rfl⟩
  (repeat' first|(refine Ka ?_;first|refine Kb ?_|(refine Kc ?_;intro _))|refine Kd ?_|(refine Ki ?_;refine Kj ?_)|exact Kk|refine Kl ?_ ?_|(refine Km ?_;first|refine Kn ?_|(refine Ko ?_;intro _))|(refine Kp ?_;first|refine Kq ?_|refine Kr ?_)|refine Kh ?_)
  refine T1.callv rfl rfl rfl rfl rfl (in02_ok hs) ?_
  rintro _ _ ⟨p3,c3,p4,c4,rfl,rfl⟩
  (repeat' first|(refine Ka ?_;first|refine Kb ?_|(refine Kc ?_;intro _))|refine Kd ?_|(refine Ki ?_;refine Kj ?_)|exact Kk|refine Kl ?_ ?_|(refine Km ?_;first|refine Kn ?_|(refine Ko ?_;intro _))|(refine Kp ?_;first|refine Kq ?_|refine Kr ?_)|refine Kh ?_)
  refine T1.callv rfl rfl rfl rfl rfl (order02_ok (v1:=.slice p1 (qud r.num.natAbs).length c1) (v2:=.slice p2 (qud (r.den:Int).natAbs).length c2) (v3:=.slice p3 (qud s.num.natAbs).length c3) (v4:=.slice p4 (qud (s.den:Int).natAbs).length c4) hr hs) ?_
  rintro _ _ ⟨rfl,rfl⟩
  (repeat' first|(refine Ka ?_;first|refine Kb ?_|(refine Kc ?_;intro _))|refine Kd ?_|(refine Ki ?_;refine Kj ?_)|exact Kk|refine Kl ?_ ?_|(refine Km ?_;first|refine Kn ?_|(refine Ko ?_;intro _))|(refine Kp ?_;first|refine Kq ?_|refine Kr ?_)|refine Kh ?_)
  (refine Post.ra ?_)
  exact ⟨_,⟨rfl,rfl⟩,by (exact Ents.au)⟩
end Go.Proofs.YtgapnfaakdjpaaaGreatDoor

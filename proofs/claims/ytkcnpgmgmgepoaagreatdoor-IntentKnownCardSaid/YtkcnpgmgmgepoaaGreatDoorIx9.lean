/- Walks: inside: where a ray meets a face. -/
import Derived.Test.YtkcnpgmgmgepoaaGreatDoorIx7
namespace Go.Sx
open Go
theorem met_total {a b c d:V3} (hd:d≠V3.zero) (h0:det3 a b c≠0) (hm:¬ ((det3 d b c).sign * (det3 a b c).sign < 0∨(det3 a d c).sign * (det3 a b c).sign < 0∨(det3 a b d).sign * (det3 a b c).sign < 0)) :
  det3 d b c+det3 a d c+det3 a b d≠0:=by
 simp only [sgn_prod] at hm
 obtain ⟨c1,c2,c3⟩:=cramer' a b c d
 intro hT
 have e:det3 d b c * det3 a b c+det3 a d c * det3 a b c+det3 a b d * det3 a b c=0:=by rw [← Int.add_mul,← Int.add_mul,hT,Int.zero_mul]
 have z1:det3 d b c=0:=(Int.mul_eq_zero.1 (show det3 d b c * det3 a b c=0 by omega)).resolve_right h0
 have z2:det3 a d c=0:=(Int.mul_eq_zero.1 (show det3 a d c * det3 a b c=0 by omega)).resolve_right h0
 have z3:det3 a b d=0:=(Int.mul_eq_zero.1 (show det3 a b d * det3 a b c=0 by omega)).resolve_right h0
 rw [z1,z2,z3] at c1 c2 c3
 simp only [Int.zero_mul,Int.add_zero,Int.mul_eq_zero] at c1 c2 c3
 apply hd
 obtain ⟨x,y,w⟩:=d
 simp only at c1 c2 c3
 rw [c1.resolve_left h0,c2.resolve_left h0,c3.resolve_left h0];rfl
def MetR (As:List Ent) (o:Option Rat) (r:Value) (Bs:List Ent):Prop :=
 (∃ x y:List UInt8,r=.tuple #[.agg #[.string ⟨x.toArray⟩,.string ⟨y.toArray⟩],.bool o.isSome]∧∀ t,o=some t→x=tN t∧y=tD t)∧Bs=As
theorem MetR.some {As:List Ent} {t:Rat}:MetR As (some t) (.tuple #[.agg #[.string ⟨(tN t).toArray⟩,.string ⟨(tD t).toArray⟩],.bool true]) As:=⟨⟨_,_,rfl,fun s h=>by cases h;exact ⟨rfl,rfl⟩⟩,rfl⟩
theorem MetR.none {As:List Ent} {x y:List UInt8}:MetR As none (.tuple #[.agg #[.string ⟨x.toArray⟩,.string ⟨y.toArray⟩],.bool false]) As:=⟨⟨_,_,rfl,fun s h=>by cases h⟩,rfl⟩
end Go.Sx
namespace Go.Proofs.YtkcnpgmgmgepoaaGreatDoor
open Go Go.Sx
variable {w0:World} {As:List Ent}
set_option maxRecDepth 100000 in
set_option maxHeartbeats 8000000 in
theorem imet_ok (ht:Tab w0) {q:Bool} {a b c d:V3} (ha:a.in 400000) (hb:b.in 400000) (hc:c.in 400000) (hd:d.in 400000) (hd0:d≠V3.zero) :
  CallsS Tryz.prog w0 186 [triV a b c,spnV (path0 q),d.val] As (MetR As (metP q a b c d)):=by
 have hd3:d.in 3243601:=V3.in_mono hd (by decide)
 have bD:=det_in (l:=400000) (m:=400000) (n:=400000) (by decide) (by decide) (by decide) ha hb hc
 have g1:=det_in (l:=400000) (m:=400000) (n:=400000) (by decide) (by decide) (by decide) hd hb hc
 have g2:=det_in (l:=400000) (m:=400000) (n:=400000) (by decide) (by decide) (by decide) ha hd hc
 have g3:=det_in (l:=400000) (m:=400000) (n:=400000) (by decide) (by decide) (by decide) ha hb hd
 have m1:=sgn_mul (B:=1) (sgn_in (det3 d b c)) (sgn_in (det3 a b c))
 have m2:=sgn_mul (B:=1) (sgn_in (det3 a d c)) (sgn_in (det3 a b c))
 have m3:=sgn_mul (B:=1) (sgn_in (det3 a b d)) (sgn_in (det3 a b c))
 refine CallsS.of_tri Tryz.func186 rfl Tryz.ntmps186 rfl ?_
 show Tri _ _ _ _ (env0 0 [.agg #[.int .i64 a.x,.int .i64 a.y,.int .i64 a.z,.int .i64 b.x,.int .i64 b.y,.int .i64 b.z,.int .i64 c.x,.int .i64 c.y,.int .i64 c.z],.agg #[.string ⟨(tN 0).toArray⟩,.string ⟨(tD 0).toArray⟩,.string ⟨(tN 1).toArray⟩,.string ⟨(tD 1).toArray⟩,.bool q],.agg #[.int .i64 d.x,.int .i64 d.y,.int .i64 d.z]]) _ _
 (repeat' first|(refine Ka ?_;first|refine Kb ?_|(refine Kc ?_;intro _))|refine Kd ?_|refine Kh ?_)
 refine Ks rfl rfl rfl rfl (idepth_ok (a:=a) (b:=b) (c:=c) ha hb hc (by decide) (by decide) (by decide)) ?_
 (repeat' first|(refine Ka ?_;first|refine Kb ?_|(refine Kc ?_;intro _))|refine Kd ?_|refine Kh ?_)
 refine Ks rfl rfl rfl rfl (ishares_ok (a:=a) (b:=b) (c:=c) (d:=d) ha hb hc hd3) ?_
 show TL _ _ _ _ _ ((_,.agg #[.int .i64 (det3 d b c),.int .i64 (det3 a d c),.int .i64 (det3 a b d)])::_) _ _
 by_cases hD:det3 a b c=0
 ·have hmet:metP q a b c d=if (nrm a b c).dot d≠0 then (if onT axP a b c then some 0 else none) else (cut3S (path0 q) (axP (nrm a b c)) (nrm a b c) a b c d).map (·.low):=by
   unfold metP onT
   rw [if_neg (fun h=>h hD)]
  rw [hmet]
  clear hmet m1 m2 m3
  have bn:(nrm a b c).in (2 * (800000 * 800000)):=cross_in (by decide) (by decide) (sub_in hb ha) (sub_in hc ha)
  have bd:=dot_in3 (by decide) (by decide) bn hd
  generalize det3 d b c=s1 at *
  generalize det3 a d c=s2 at *
  generalize det3 a b d=s3 at *
  generalize det3 a b c=D at *
  (repeat' first|(refine Ka ?_;first|refine Kb ?_|(refine Kc ?_;intro _))|refine Kd ?_|refine Kh ?_)
  refine Tri.unroll 4 ?_
  (repeat' first|(refine Ka ?_;first|refine Kb ?_|(refine Kc ?_;intro _))|refine Kd ?_|refine Kh ?_)
  refine Ks rfl rfl rfl rfl (inormal_ok (a:=a) (b:=b) (c:=c) ha hb hc (by decide) (by decide) (by decide)) ?_
  have hdot:(nrm a b c).dot d=(nrm a b c).x * d.x+(nrm a b c).y * d.y+(nrm a b c).z * d.z:=rfl
  have hwith:=fun (Bs:List Ent)=>iwithin_ok (As:=Bs) ht (s:=path0 q) (a:=a) (b:=b) (c:=c) (d:=d) (path_fit q) ha hb hc hd3
  generalize cut3S (path0 q) (axP (nrm a b c)) (nrm a b c) a b c d=O at hwith ⊢
  generalize nrm a b c=n at *
  show TL _ _ _ _ _ ((_,.agg #[.int .i64 n.x,.int .i64 n.y,.int .i64 n.z])::_) _ _
  by_cases hnd:n.dot d=0
  ·rw [if_neg (fun h=>h hnd)]
   rw [hdot] at hnd
   (repeat' first|(refine Ka ?_;first|refine Kb ?_|(refine Kc ?_;intro _))|refine Kd ?_|refine Kh ?_)
   refine Ks rfl rfl rfl rfl (hwith _) ?_
   cases O with
   | none =>
        show TL _ _ _ _ _ ((_,.tuple #[.agg #[.string ⟨([]:List UInt8).toArray⟩,.string ⟨([]:List UInt8).toArray⟩,.string ⟨([]:List UInt8).toArray⟩,.string ⟨([]:List UInt8).toArray⟩,.bool false],.bool false])::_) _ _
        (repeat' first|(refine Ka ?_;first|refine Kb ?_|(refine Kc ?_;intro _))|refine Kd ?_|refine Kh ?_)
        (refine Post.ra ?_)
        exact ⟨_,MetR.none (x:=[]) (y:=[]),by (exact Ents.au)⟩
   | some t =>
        show TL _ _ _ _ _ ((_,.tuple #[.agg #[.string ⟨(tN t.low).toArray⟩,.string ⟨(tD t.low).toArray⟩,.string ⟨(tN t.high).toArray⟩,.string ⟨(tD t.high).toArray⟩,.bool t.opn],.bool true])::_) _ _
        (repeat' first|(refine Ka ?_;first|refine Kb ?_|(refine Kc ?_;intro _))|refine Kd ?_|refine Kh ?_)
        (refine Post.ra ?_)
        exact ⟨_,MetR.some (t:=t.low),by (exact Ents.au)⟩
  ·rw [if_pos hnd]
   rw [hdot] at hnd
   (repeat' first|(refine Ka ?_;first|refine Kb ?_|(refine Kc ?_;intro _))|refine Kd ?_|refine Kh ?_)
   rename_i b3 b4 b5 b6 b13
   refine Tri.dw [.cl b3 [.int .i64 a.x,.int .i64 a.y,.int .i64 a.z,.int .i64 b.x,.int .i64 b.y,.int .i64 b.z,.int .i64 c.x,.int .i64 c.y,.int .i64 c.z] 254,.cl b4 [.string ⟨(tN 0).toArray⟩,.string ⟨(tD 0).toArray⟩,.string ⟨(tN 1).toArray⟩,.string ⟨(tD 1).toArray⟩,.bool q] 172] [] (.take 0 (.take 1 (.take 2 (.all [(3,.all [(4,.take 5 (.done))])])))) ?_
   (repeat' first|(refine Ka ?_;first|refine Kb ?_|(refine Kc ?_;intro _))|refine Kd ?_|(refine Ki ?_;refine Kj ?_)|exact Kk|refine Kl ?_ ?_|(refine Km ?_;first|refine Kn ?_|(refine Ko ?_;intro _))|(refine Kp ?_;first|refine Kq ?_|refine Kr ?_)|refine Kh ?_)
   refine Ku rfl rfl rfl rfl rfl (iholds_ok ht (a:=a) (b:=b) (c:=c) ha hb hc) ?_
   (repeat' first|(refine Ka ?_;first|refine Kb ?_|(refine Kc ?_;intro _))|refine Kd ?_|(refine Ki ?_;refine Kj ?_)|exact Kk|refine Kl ?_ ?_|(refine Km ?_;first|refine Kn ?_|(refine Ko ?_;intro _))|(refine Kp ?_;first|refine Kq ?_|refine Kr ?_)|refine Kh ?_)
   cases hv:onT axP a b c with
   | true =>
        rw [if_pos rfl]
        (refine Post.ra ?_)
        exact ⟨_,MetR.some (t:=0),by (exact Ents.au)⟩
   | false =>
        rw [if_neg (by decide)]
        (refine Post.ra ?_)
        exact ⟨_,MetR.none (x:=tN 0) (y:=tD 0),by (exact Ents.au)⟩
 ·have hD':(det3 a b c).sign≠0:=by rw [ne_eq,Int.sign_eq_zero_iff_zero];exact hD
  have hmt:=met_total hd0 hD
  unfold metP
  rw [if_pos hD]
  generalize det3 d b c=s1 at *
  generalize det3 a d c=s2 at *
  generalize det3 a b d=s3 at *
  generalize det3 a b c=D at *
  (repeat' first|(refine Ka ?_;first|refine Kb ?_|(refine Kc ?_;intro _))|refine Kd ?_|refine Kh ?_)
  refine Tri.unroll 4 ?_
  (repeat' first|(refine Ka ?_;first|refine Kb ?_|(refine Kc ?_;intro _))|refine Kd ?_|refine Kh ?_)
  refine Kt rfl rfl rfl isign_ok ?_
  (repeat' first|(refine Ka ?_;first|refine Kb ?_|(refine Kc ?_;intro _))|refine Kd ?_|refine Kh ?_)
  refine Kt rfl rfl rfl isign_ok ?_
  by_cases q1:s1.sign * D.sign < 0
  ·rw [if_pos (.inl q1)]
   (repeat' first|(refine Ka ?_;first|refine Kb ?_|(refine Kc ?_;intro _))|refine Kd ?_|refine Kh ?_)
   (refine Post.ra ?_)
   exact ⟨_,MetR.none (x:=[]) (y:=[]),by (exact Ents.au)⟩
  (repeat' first|(refine Ka ?_;first|refine Kb ?_|(refine Kc ?_;intro _))|refine Kd ?_|refine Kh ?_)
  refine Kt rfl rfl rfl isign_ok ?_
  (repeat' first|(refine Ka ?_;first|refine Kb ?_|(refine Kc ?_;intro _))|refine Kd ?_|refine Kh ?_)
  refine Kt rfl rfl rfl isign_ok ?_
  by_cases q2:s2.sign * D.sign < 0
  ·rw [if_pos (.inr (.inl q2))]
   (repeat' first|(refine Ka ?_;first|refine Kb ?_|(refine Kc ?_;intro _))|refine Kd ?_|refine Kh ?_)
   (refine Post.ra ?_)
   exact ⟨_,MetR.none (x:=[]) (y:=[]),by (exact Ents.au)⟩
  (repeat' first|(refine Ka ?_;first|refine Kb ?_|(refine Kc ?_;intro _))|refine Kd ?_|refine Kh ?_)
  refine Kt rfl rfl rfl isign_ok ?_
  (repeat' first|(refine Ka ?_;first|refine Kb ?_|(refine Kc ?_;intro _))|refine Kd ?_|refine Kh ?_)
  refine Kt rfl rfl rfl isign_ok ?_
  by_cases q3:s3.sign * D.sign < 0
  ·rw [if_pos (.inr (.inr q3))]
   (repeat' first|(refine Ka ?_;first|refine Kb ?_|(refine Kc ?_;intro _))|refine Kd ?_|refine Kh ?_)
   (refine Post.ra ?_)
   exact ⟨_,MetR.none (x:=[]) (y:=[]),by (exact Ents.au)⟩
  (repeat' first|(refine Ka ?_;first|refine Kb ?_|(refine Kc ?_;intro _))|refine Kd ?_|refine Kh ?_)
  have hno:¬ (s1.sign * D.sign < 0∨s2.sign * D.sign < 0∨s3.sign * D.sign < 0):=by omega
  rw [if_neg hno]
  have hT:=hmt hno
  clear hmt hno q1 q2 q3 m1 m2 m3
  have e0:(0:Int)+s1+s2+s3=s1+s2+s3:=by omega
  rw [e0]
  refine Ks rfl rfl rfl rfl (ofR_okQ ht (n:=D) (d:=s1+s2+s3) (by omega) (by omega) hT) ?_
  (repeat' first|(refine Ka ?_;first|refine Kb ?_|(refine Kc ?_;intro _))|refine Kd ?_|refine Kh ?_)
  refine Kt rfl rfl rfl needF_ok ?_
  have fq:Fit 600 (qI D (s1+s2+s3)):=(fit_qI (by omega) (by omega) hT).mono (by decide)
  generalize qI D (s1+s2+s3)=u at fq ⊢
  (repeat' first|(refine Ka ?_;first|refine Kb ?_|(refine Kc ?_;intro _))|refine Kd ?_|refine Kh ?_)
  rename_i b3 b4 b5 b6 b12
  cases q with
  | true =>
   rw [if_pos (.inl rfl)]
   refine Tri.dw [.cl b12 [.string ⟨(tN u).toArray⟩,.string ⟨(tD u).toArray⟩] 67,.cl b4 [.string ⟨(tN 0).toArray⟩,.string ⟨(tD 0).toArray⟩,.string ⟨(tN 1).toArray⟩,.string ⟨(tD 1).toArray⟩,.bool true] 172] [] (.take 0 (.take 1 (.take 2 (.take 3 (.take 4 (.take 5 (.take 6 (.all [(7,.take 8 (.take 9 (.all [(10,.take 11 (.take 12 (.all [(13,.take 14 (.done))])))])))])))))))) ?_
   (repeat' first|(refine Ka ?_;first|refine Kb ?_|(refine Kc ?_;intro _))|refine Kd ?_|(refine Ki ?_;refine Kj ?_)|exact Kk|refine Kl ?_ ?_|(refine Km ?_;first|refine Kn ?_|(refine Ko ?_;intro _))|(refine Kp ?_;first|refine Kq ?_|refine Kr ?_)|refine Kh ?_)
   (refine Post.ra ?_)
   exact ⟨_,MetR.some (t:=u),by (exact Ents.au)⟩
  | false =>
   refine Tri.dw [.cl b12 [.string ⟨(tN u).toArray⟩,.string ⟨(tD u).toArray⟩] 67,.cl b4 [.string ⟨(tN 0).toArray⟩,.string ⟨(tD 0).toArray⟩,.string ⟨(tN 1).toArray⟩,.string ⟨(tD 1).toArray⟩,.bool false] 172] [] (.take 0 (.take 1 (.take 2 (.take 3 (.take 4 (.take 5 (.take 6 (.all [(7,.take 8 (.take 9 (.all [(10,.take 11 (.take 12 (.all [(13,.take 14 (.done))])))])))])))))))) ?_
   (repeat' first|(refine Ka ?_;first|refine Kb ?_|(refine Kc ?_;intro _))|refine Kd ?_|(refine Ki ?_;refine Kj ?_)|exact Kk|refine Kl ?_ ?_|(refine Km ?_;first|refine Kn ?_|(refine Ko ?_;intro _))|(refine Kp ?_;first|refine Kq ?_|refine Kr ?_)|refine Kh ?_)
   refine Ku rfl rfl rfl rfl rfl (cmpR_okQ (r:=u) (s:=1) fq (fit1.mono (by decide))) ?_
   (repeat' first|(refine Ka ?_;first|refine Kb ?_|(refine Kc ?_;intro _))|refine Kd ?_|(refine Ki ?_;refine Kj ?_)|exact Kk|refine Kl ?_ ?_|(refine Km ?_;first|refine Kn ?_|(refine Ko ?_;intro _))|(refine Kp ?_;first|refine Kq ?_|refine Kr ?_)|refine Kh ?_)
   refine Ku rfl rfl rfl rfl rfl needI_ok ?_
   have hor:=@ordQ_gt u 1
   by_cases hu:u≤1
   ·have ho:ordQ u 1≤0:=by
     have:¬ 0 < ordQ u 1:=fun h=>Rat.not_lt.2 hu (hor.1 h)
     omega
    rw [if_pos (.inr hu)]
    generalize ordQ u 1=O at ho ⊢
    (repeat' first|(refine Ka ?_;first|refine Kb ?_|(refine Kc ?_;intro _))|refine Kd ?_|(refine Ki ?_;refine Kj ?_)|exact Kk|refine Kl ?_ ?_|(refine Km ?_;first|refine Kn ?_|(refine Ko ?_;intro _))|(refine Kp ?_;first|refine Kq ?_|refine Kr ?_)|refine Kh ?_)
    (refine Post.ra ?_)
    refine ⟨As,?_,by (exact Ents.au)⟩
    rw [decide_eq_true ho]
    exact MetR.some (t:=u)
   ·have ho:¬ ordQ u 1≤0:=by
     have:=hor.2 (Rat.not_le.1 hu)
     omega
    rw [if_neg (fun h=>by rcases h with h|h;cases h;exact hu h)]
    generalize ordQ u 1=O at ho ⊢
    (repeat' first|(refine Ka ?_;first|refine Kb ?_|(refine Kc ?_;intro _))|refine Kd ?_|(refine Ki ?_;refine Kj ?_)|exact Kk|refine Kl ?_ ?_|(refine Km ?_;first|refine Kn ?_|(refine Ko ?_;intro _))|(refine Kp ?_;first|refine Kq ?_|refine Kr ?_)|refine Kh ?_)
    (refine Post.ra ?_)
    refine ⟨As,?_,by (exact Ents.au)⟩
    rw [decide_eq_false ho]
    exact MetR.none (x:=tN u) (y:=tD u)
end Go.Proofs.YtkcnpgmgmgepoaaGreatDoor

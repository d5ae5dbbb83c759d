/- Walks: frac: integers. -/
import Derived.Test.YtgapnfaakdjpaaaGreatDoorCb4
import Derived.Test.YtgapnfaakdjpaaaGreatDoorCp1
import Derived.Test.YtgapnfaakdjpaaaGreatDoorWb1
namespace Go.Sx
open Go
theorem scaled_sign {x:Int} {m:Nat}:decide (x * (m:Int) < 0)=(decide (x < 0)&&decide (x.natAbs * m≠0)):=by
  rw [Bool.eq_iff_iff,decide_eq_true_eq,Bool.and_eq_true,decide_eq_true_eq,decide_eq_true_eq]
  rcases Nat.eq_zero_or_pos m with h|h
  · subst h;simp
  · constructor
    · intro h1
      have h2:x < 0:=by
        rcases Int.lt_or_le x 0 with h2|h2
        · exact h2
        · have:=Int.mul_nonneg h2 (show (0:Int)≤m by omega);omega
      exact ⟨h2,Nat.mul_ne_zero (by omega) (by omega)⟩
    · rintro ⟨h1,_⟩
      exact Int.mul_neg_of_neg_of_pos h1 (by omega)
theorem floor_abs {x:Int} {d:Nat} (hd:d≠0):(x / (d:Int)).natAbs=(if x < 0∧x.natAbs % d≠0 then x.natAbs / d+1 else x.natAbs / d)∧decide (x / (d:Int) < 0)=(decide (x < 0)&&decide ((if x < 0∧x.natAbs % d≠0 then x.natAbs / d+1 else x.natAbs / d)≠0)):=by
  have hm:=Nat.div_add_mod x.natAbs d
  have hl:=Nat.mod_lt x.natAbs (Nat.pos_of_ne_zero hd)
  generalize x.natAbs / d=q at *
  generalize x.natAbs % d=r at *
  have key:x / (d:Int)=if x < 0 then (if r≠0 then -((q:Int)+1) else -(q:Int)) else (q:Int):=by
    have hc:((d * q+r:Nat):Int)=(d:Int) * (q:Int)+(r:Int):=by push_cast;rfl
    split
    · rename_i hx
      have hx2:x=-((d:Int) * (q:Int)+(r:Int)):=by omega
      split
      · rw [hx2]
        have e:-((d:Int) * (q:Int)+(r:Int))=((d:Int) - (r:Int))+(d:Int) * (-((q:Int)+1)):=by grind
        rw [e,Int.add_mul_ediv_left _ _ (by omega),Int.ediv_eq_zero_of_lt (by omega) (by omega),Int.zero_add]
      · rename_i hr
        have hr:r=0:=by omega
        subst hr
        rw [hx2]
        have e:-((d:Int) * (q:Int)+((0:Nat):Int))=(d:Int) * (-(q:Int)):=by grind
        rw [e,Int.mul_ediv_cancel_left _ (by omega)]
    · rename_i hx
      have hx2:x=(r:Int)+(d:Int) * (q:Int):=by omega
      rw [hx2,Int.add_mul_ediv_left _ _ (by omega),Int.ediv_eq_zero_of_lt (by omega) (by omega),Int.zero_add]
  rw [key]
  by_cases hx:x < 0
  · by_cases hr:r≠0
    · simp only [hx,hr,if_true,and_self,decide_true,Bool.true_and,not_false_eq_true,ne_eq]
      refine ⟨by omega,?_⟩
      rw [Bool.eq_iff_iff,decide_eq_true_eq,decide_eq_true_eq];omega
    · simp only [hx,hr,if_true,if_false,and_false,decide_true,Bool.true_and]
      refine ⟨by omega,?_⟩
      rw [Bool.eq_iff_iff,decide_eq_true_eq,decide_eq_true_eq];omega
  · simp only [hx,if_false,false_and,decide_false,Bool.false_and]
    refine ⟨by omega,?_⟩
    rw [decide_eq_false_iff_not];omega
end Go.Sx
namespace Go.Proofs.YtgapnfaakdjpaaaGreatDoor.Q
open Go Go.Sx
variable {w0:World} {As:List Ent}
theorem signed_ok {v:Value} {n:Nat} {b:Bool} [hr:RdIn As v Nat (cN .u32) (mag n)]:CallsS Tryz.prog w0 169 [v,.bool b] As fun u Bs=>u=.agg #[v,.bool (b&&decide (n≠0))]∧Bs=As:=by
  refine CallsS.rdSl v fun p cap hv=>?_
  subst hv
  refine CallsS.of_tri Tryz.func169 rfl Tryz.ntmps169 rfl ?_
  cases b
  · (repeat' first|(refine Ka ?_;first|refine Kb ?_|(refine Kc ?_;intro _))|refine Kd ?_|refine Kh ?_)
    (refine Post.ra ?_)
    exact ⟨_,⟨rfl,rfl⟩,by (exact Ents.au)⟩
  · (repeat' first|(refine Ka ?_;first|refine Kb ?_|(refine Kc ?_;intro _))|refine Kd ?_|refine Kh ?_)
    refine TL.call rfl rfl rfl zero_ok ?_
    rintro _ As ⟨rfl,rfl⟩
    (repeat' first|(refine Ka ?_;first|refine Kb ?_|(refine Kc ?_;intro _))|refine Kd ?_|refine Kh ?_)
    (refine Post.ra ?_)
    exact ⟨_,⟨by simp,rfl⟩,by (exact Ents.au)⟩
theorem number_ok {s:List UInt8} {z:Int} (h:readW s=some z):CallsS Tryz.prog w0 166 [.string ⟨s.toArray⟩] As (SgnR As z):=by
  refine CallsS.of_tri Tryz.func166 rfl Tryz.ntmps166 rfl ?_
  (repeat' first|(refine Ka ?_;first|refine Kb ?_|(refine Kc ?_;intro _))|refine Kd ?_|refine Kh ?_)
  refine TL.call rfl rfl rfl cutPrefix_ok ?_
  rintro _ As ⟨rfl,rfl⟩
  obtain ⟨neg,hneg⟩:∃ neg,Lib.hasPrefix s [45]=neg:=⟨_,rfl⟩
  obtain ⟨l,hll⟩:∃ l,Lib.trimPrefix s [45]=l:=⟨_,rfl⟩
  rw [hneg,hll]
  have hrw:=readW_eq hneg hll
  rw [h] at hrw
  split at hrw
  · rename_i hc
    obtain ⟨h0,h6,hd,h48⟩:=hc
    rw [Option.some.injEq] at hrw
    have e1:z.natAbs=numOf l:=by rw [hrw];split<;>omega
    have e2:decide (z < 0)=neg:=by
      rw [hrw]
      cases neg
      · simp
      · have:=numOf_pos hd h0 fun h1=>by have:=(h48 h1).1;cases this
        simp;omega
    (repeat' first|(refine Ka ?_;first|refine Kb ?_|(refine Kc ?_;intro _))|refine Kd ?_|refine Kh ?_)
    refine TL.call rfl rfl rfl (gather_ok hd h0 (by omega)) ?_
    rintro _ _ ⟨p,cap,rfl,rfl⟩
    (repeat' first|(refine Ka ?_;first|refine Kb ?_|(refine Kc ?_;intro _))|refine Kd ?_|refine Kh ?_)
    (refine Post.ra ?_)
    exact ⟨_,⟨p,cap,by rw [e1,e2];rfl,by rw [e1]⟩,by (exact Ents.au)⟩
  · cases hrw
theorem text_ok (ht:Tab w0) {v:Value} {z:Int} [hr:RdIn As v Nat (cN .u32) (mag z.natAbs)] (hl:(mag z.natAbs).length≤1000) :
    CallsS Tryz.prog w0 199 [.agg #[v,.bool (decide (z < 0))]] As fun u Bs=>u=.string ⟨(textI z).toArray⟩∧Bs=As:=by
  refine CallsS.rdSl v fun pv cv hv=>?_
  subst hv
  refine CallsS.of_tri Tryz.func199 rfl Tryz.ntmps199 rfl ?_
  (repeat' first|(refine Ka ?_;first|refine Kb ?_|(refine Kc ?_;intro _))|refine Kd ?_|refine Kh ?_)
  ((show Tri _ _ _ (.cond _ _ _) _ _ _;first|refine Tri.condP rfl (fun hc=>?_) (fun hc=>?_)|refine Tri.condN rfl (fun hc=>?_) (fun hc=>?_)))
  · (repeat' first|(refine Ka ?_;first|refine Kb ?_|(refine Kc ?_;intro _))|refine Kd ?_|refine Kh ?_)
    refine TL.call rfl rfl rfl (digits_ok ht hl) ?_
    rintro _ As ⟨rfl,rfl⟩
    have hdl:=dec_len z.natAbs
    have hdm:=nDigits_le_mag z.natAbs
    (repeat' first|(refine Ka ?_;first|refine Kb ?_|(refine Kc ?_;intro _))|refine Kd ?_|refine Kh ?_)
    (refine Post.ra ?_)
    refine ⟨_,⟨?_,rfl⟩,by (exact Ents.au)⟩
    simp only [textI,Lib.itoa,if_pos hc]
    rfl
  · (repeat' first|(refine Ka ?_;first|refine Kb ?_|(refine Kc ?_;intro _))|refine Kd ?_|refine Kh ?_)
    refine TL.call rfl rfl rfl (digits_ok ht hl) ?_
    rintro _ As ⟨rfl,rfl⟩
    (repeat' first|(refine Ka ?_;first|refine Kb ?_|(refine Kc ?_;intro _))|refine Kd ?_|refine Kh ?_)
    (refine Post.ra ?_)
    refine ⟨_,⟨?_,rfl⟩,by (exact Ents.au)⟩
    simp only [textI,Lib.itoa,if_neg hc]
    rw [show z.natAbs=z.toNat by omega]
theorem opposite_ok {v:Value} {x:Int} [hf:RdIn As v Nat (cN .u32) (mag x.natAbs)]:CallsS Tryz.prog w0 163 [.agg #[v,.bool (decide (x < 0))]] As fun u Bs=>u=.agg #[v,.bool (decide (-x < 0))]∧Bs=As:=by
  refine CallsS.rdSl v fun pv cv hv=>?_
  subst hv
  refine CallsS.of_tri Tryz.func163 rfl Tryz.ntmps163 rfl ?_
  have e1:(!decide (x < 0)&&decide (x.natAbs≠0))=decide (-x < 0):=by
    rw [Bool.eq_iff_iff]
    simp only [Bool.and_eq_true,Bool.not_eq_true',decide_eq_false_iff_not,decide_eq_true_eq]
    omega
  (repeat' first|(refine Ka ?_;first|refine Kb ?_|(refine Kc ?_;intro _))|refine Kd ?_|refine Kh ?_)
  refine TL.call rfl rfl rfl (signed_ok (n:=x.natAbs)) ?_
  rintro _ As ⟨rfl,rfl⟩
  rw [e1]
  (repeat' first|(refine Ka ?_;first|refine Kb ?_|(refine Kc ?_;intro _))|refine Kd ?_|refine Kh ?_)
  (refine Post.ra ?_)
  exact ⟨_,⟨rfl,rfl⟩,by (exact Ents.au)⟩
theorem sign_ok {v:Value} {x:Int} [hf:RdIn As v Nat (cN .u32) (mag x.natAbs)]:CallsS Tryz.prog w0 164 [.agg #[v,.bool (decide (x < 0))]] As fun u Bs=>u=.int .i64 (signI x)∧Bs=As:=by
  refine CallsS.rdSl v fun pv cv hv=>?_
  subst hv
  refine CallsS.of_tri Tryz.func164 rfl Tryz.ntmps164 rfl ?_
  (repeat' first|(refine Ka ?_;first|refine Kb ?_|(refine Kc ?_;intro _))|refine Kd ?_|refine Kh ?_)
  refine TL.call rfl rfl rfl (zero_ok (n:=x.natAbs)) ?_
  rintro _ As ⟨rfl,rfl⟩
  by_cases h0:x.natAbs=0
  · (repeat' first|(refine Ka ?_;first|refine Kb ?_|(refine Kc ?_;intro _))|refine Kd ?_|refine Kh ?_)
    (refine Post.ra ?_)
    exact ⟨_,⟨by rw [signI,if_neg (by omega),if_pos (by omega)],rfl⟩,by (exact Ents.au)⟩
  · by_cases h1:x < 0
    · (repeat' first|(refine Ka ?_;first|refine Kb ?_|(refine Kc ?_;intro _))|refine Kd ?_|refine Kh ?_)
      (refine Post.ra ?_)
      exact ⟨_,⟨by rw [signI,if_pos h1],rfl⟩,by (exact Ents.au)⟩
    · (repeat' first|(refine Ka ?_;first|refine Kb ?_|(refine Kc ?_;intro _))|refine Kd ?_|refine Kh ?_)
      (refine Post.ra ?_)
      exact ⟨_,⟨by rw [signI,if_neg h1,if_neg (by omega)],rfl⟩,by (exact Ents.au)⟩
theorem sum_ok {v o:Value} {x y:Int} [hf:RdIn As v Nat (cN .u32) (mag x.natAbs)] [hg:RdIn As o Nat (cN .u32) (mag y.natAbs)] (ha:(mag x.natAbs).length≤100000000) (hb:(mag y.natAbs).length≤100000000) :
    CallsS Tryz.prog w0 162 [.agg #[v,.bool (decide (x < 0))],.agg #[o,.bool (decide (y < 0))]] As (SgnR As (x+y)):=by
  refine CallsS.rdSl v fun pv cv hv=>CallsS.rdSl o fun po co ho=>?_
  subst hv ho
  refine CallsS.of_tri Tryz.func162 rfl Tryz.ntmps162 rfl ?_
  (repeat' first|(refine Ka ?_;first|refine Kb ?_|(refine Kc ?_;intro _))|refine Kd ?_|refine Kh ?_)
  ((show Tri _ _ _ (.cond _ _ _) _ _ _;first|refine Tri.condP rfl (fun hc=>?_) (fun hc=>?_)|refine Tri.condN rfl (fun hc=>?_) (fun hc=>?_)))
  · have hs:(x < 0∧y < 0)∨(¬ x < 0∧¬ y < 0):=by
      by_cases h1:x < 0<;>by_cases h2:y < 0<;>simp [h1,h2] at hc<;>omega
    have e1:(x+y).natAbs=x.natAbs+y.natAbs:=by omega
    have e2:decide (x+y < 0)=(decide (x < 0)&&decide (x.natAbs+y.natAbs≠0)):=by
      rcases hs with ⟨h1,h2⟩|⟨h1,h2⟩
      · simp only [h1,decide_true,Bool.true_and];rw [Bool.eq_iff_iff,decide_eq_true_eq,decide_eq_true_eq];omega
      · simp only [h1,decide_false,Bool.false_and];rw [decide_eq_false_iff_not];omega
    (repeat' first|(refine Ka ?_;first|refine Kb ?_|(refine Kc ?_;intro _))|refine Kd ?_|refine Kh ?_)
    refine Tri.dr (.take 0 (.take 1 (.take 2 (.take 3 (.take 5 (.take 6 (.all [(4,.all [(7,.all [(8,.done)])])]))))))) ?_
    (repeat' first|(refine Ka ?_;first|refine Kb ?_|(refine Kc ?_;intro _))|refine Kd ?_|(refine Ki ?_;refine Kj ?_)|exact Kk|refine Kl ?_ ?_|(refine Km ?_;first|refine Kn ?_|(refine Ko ?_;intro _))|(refine Kp ?_;first|refine Kq ?_|refine Kr ?_)|refine Kh ?_)
    refine T1.call rfl rfl rfl rfl (plus_ok ha hb) ?_
    rintro _ _ ⟨p,cap,rfl,rfl⟩
    (repeat' first|(refine Ka ?_;first|refine Kb ?_|(refine Kc ?_;intro _))|refine Kd ?_|(refine Ki ?_;refine Kj ?_)|exact Kk|refine Kl ?_ ?_|(refine Km ?_;first|refine Kn ?_|(refine Ko ?_;intro _))|(refine Kp ?_;first|refine Kq ?_|refine Kr ?_)|refine Kh ?_)
    refine T1.call rfl rfl rfl rfl (signed_ok (n:=x.natAbs+y.natAbs)) ?_
    rintro _ _ ⟨rfl,rfl⟩
    (repeat' first|(refine Ka ?_;first|refine Kb ?_|(refine Kc ?_;intro _))|refine Kd ?_|(refine Ki ?_;refine Kj ?_)|exact Kk|refine Kl ?_ ?_|(refine Km ?_;first|refine Kn ?_|(refine Ko ?_;intro _))|(refine Kp ?_;first|refine Kq ?_|refine Kr ?_)|refine Kh ?_)
    (refine Post.ra ?_)
    exact ⟨_,sgnR_of e1 e2,by (exact Ents.au)⟩
  · have hs:(x < 0∧¬ y < 0)∨(¬ x < 0∧y < 0):=by
      by_cases h1:x < 0<;>by_cases h2:y < 0<;>simp [h1,h2] at hc<;>omega
    (repeat' first|(refine Ka ?_;first|refine Kb ?_|(refine Kc ?_;intro _))|refine Kd ?_|(refine Ki ?_;refine Kj ?_)|exact Kk|refine Kl ?_ ?_|(refine Km ?_;first|refine Kn ?_|(refine Ko ?_;intro _))|(refine Kp ?_;first|refine Kq ?_|refine Kr ?_)|refine Kh ?_)
    refine TL.call rfl rfl rfl (compare_ok ha hb) ?_
    rintro _ As ⟨rfl,rfl⟩
    (repeat' first|(refine Ka ?_;first|refine Kb ?_|(refine Kc ?_;intro _))|refine Kd ?_|(refine Ki ?_;refine Kj ?_)|exact Kk|refine Kl ?_ ?_|(refine Km ?_;first|refine Kn ?_|(refine Ko ?_;intro _))|(refine Kp ?_;first|refine Kq ?_|refine Kr ?_)|refine Kh ?_)
    ((show Tri _ _ _ (.cond _ _ _) _ _ _;first|refine Tri.condP rfl (fun hc=>?_) (fun hc=>?_)|refine Tri.condN rfl (fun hc=>?_) (fun hc=>?_)))
    · have hlt:=cmp_lt.1 hc
      have e1:(x+y).natAbs=y.natAbs - x.natAbs:=by omega
      have e2:decide (x+y < 0)=(decide (y < 0)&&decide (y.natAbs - x.natAbs≠0)):=by
        by_cases h2:y < 0
        · simp only [h2,decide_true,Bool.true_and];rw [Bool.eq_iff_iff,decide_eq_true_eq,decide_eq_true_eq];omega
        · simp only [h2,decide_false,Bool.false_and];rw [decide_eq_false_iff_not];omega
      (repeat' first|(refine Ka ?_;first|refine Kb ?_|(refine Kc ?_;intro _))|refine Kd ?_|(refine Ki ?_;refine Kj ?_)|exact Kk|refine Kl ?_ ?_|(refine Km ?_;first|refine Kn ?_|(refine Ko ?_;intro _))|(refine Kp ?_;first|refine Kq ?_|refine Kr ?_)|refine Kh ?_)
      refine Tri.dr (.take 0 (.take 1 (.take 2 (.take 3 (.take 5 (.take 6 (.all [(4,.all [(7,.all [(8,.done)])])]))))))) ?_
      (repeat' first|(refine Ka ?_;first|refine Kb ?_|(refine Kc ?_;intro _))|refine Kd ?_|(refine Ki ?_;refine Kj ?_)|exact Kk|refine Kl ?_ ?_|(refine Km ?_;first|refine Kn ?_|(refine Ko ?_;intro _))|(refine Kp ?_;first|refine Kq ?_|refine Kr ?_)|refine Kh ?_)
      refine T1.call rfl rfl rfl rfl (minus_ok (by omega) hb) ?_
      rintro _ _ ⟨p,cap,rfl,rfl⟩
      (repeat' first|(refine Ka ?_;first|refine Kb ?_|(refine Kc ?_;intro _))|refine Kd ?_|(refine Ki ?_;refine Kj ?_)|exact Kk|refine Kl ?_ ?_|(refine Km ?_;first|refine Kn ?_|(refine Ko ?_;intro _))|(refine Kp ?_;first|refine Kq ?_|refine Kr ?_)|refine Kh ?_)
      refine T1.call rfl rfl rfl rfl (signed_ok (n:=y.natAbs - x.natAbs)) ?_
      rintro _ _ ⟨rfl,rfl⟩
      (repeat' first|(refine Ka ?_;first|refine Kb ?_|(refine Kc ?_;intro _))|refine Kd ?_|(refine Ki ?_;refine Kj ?_)|exact Kk|refine Kl ?_ ?_|(refine Km ?_;first|refine Kn ?_|(refine Ko ?_;intro _))|(refine Kp ?_;first|refine Kq ?_|refine Kr ?_)|refine Kh ?_)
      (refine Post.ra ?_)
      exact ⟨_,sgnR_of e1 e2,by (exact Ents.au)⟩
    · have hlt:¬ x.natAbs < y.natAbs:=fun h=>hc (cmp_lt.2 h)
      have e1:(x+y).natAbs=x.natAbs - y.natAbs:=by omega
      have e2:decide (x+y < 0)=(decide (x < 0)&&decide (x.natAbs - y.natAbs≠0)):=by
        by_cases h2:x < 0
        · simp only [h2,decide_true,Bool.true_and];rw [Bool.eq_iff_iff,decide_eq_true_eq,decide_eq_true_eq];omega
        · simp only [h2,decide_false,Bool.false_and];rw [decide_eq_false_iff_not];omega
      (repeat' first|(refine Ka ?_;first|refine Kb ?_|(refine Kc ?_;intro _))|refine Kd ?_|(refine Ki ?_;refine Kj ?_)|exact Kk|refine Kl ?_ ?_|(refine Km ?_;first|refine Kn ?_|(refine Ko ?_;intro _))|(refine Kp ?_;first|refine Kq ?_|refine Kr ?_)|refine Kh ?_)
      refine Tri.dr (.take 0 (.take 1 (.take 2 (.take 3 (.take 5 (.take 6 (.all [(4,.all [(7,.all [(8,.done)])])]))))))) ?_
      (repeat' first|(refine Ka ?_;first|refine Kb ?_|(refine Kc ?_;intro _))|refine Kd ?_|(refine Ki ?_;refine Kj ?_)|exact Kk|refine Kl ?_ ?_|(refine Km ?_;first|refine Kn ?_|(refine Ko ?_;intro _))|(refine Kp ?_;first|refine Kq ?_|refine Kr ?_)|refine Kh ?_)
      refine T1.call rfl rfl rfl rfl (minus_ok (by omega) ha) ?_
      rintro _ _ ⟨p,cap,rfl,rfl⟩
      (repeat' first|(refine Ka ?_;first|refine Kb ?_|(refine Kc ?_;intro _))|refine Kd ?_|(refine Ki ?_;refine Kj ?_)|exact Kk|refine Kl ?_ ?_|(refine Km ?_;first|refine Kn ?_|(refine Ko ?_;intro _))|(refine Kp ?_;first|refine Kq ?_|refine Kr ?_)|refine Kh ?_)
      refine T1.call rfl rfl rfl rfl (signed_ok (n:=x.natAbs - y.natAbs)) ?_
      rintro _ _ ⟨rfl,rfl⟩
      (repeat' first|(refine Ka ?_;first|refine Kb ?_|(refine Kc ?_;intro _))|refine Kd ?_|(refine Ki ?_;refine Kj ?_)|exact Kk|refine Kl ?_ ?_|(refine Km ?_;first|refine Kn ?_|(refine Ko ?_;intro _))|(refine Kp ?_;first|refine Kq ?_|refine Kr ?_)|refine Kh ?_)
      (refine Post.ra ?_)
      exact ⟨_,sgnR_of e1 e2,by (exact Ents.au)⟩
theorem scaled_ok {v o:Value} {x:Int} {m:Nat} [hf:RdIn As v Nat (cN .u32) (mag x.natAbs)] [hg:RdIn As o Nat (cN .u32) (mag m)] (ha:(mag x.natAbs).length≤100000000) (hb:(mag m).length≤100000000) :
    CallsS Tryz.prog w0 161 [.agg #[v,.bool (decide (x < 0))],o] As (SgnR As (x * (m:Int))):=by
  refine CallsS.rdSl v fun pv cv hv=>CallsS.rdSl o fun po co ho=>?_
  subst hv ho
  have e1:(x * (m:Int)).natAbs=x.natAbs * m:=by rw [Int.natAbs_mul,Int.natAbs_natCast]
  refine CallsS.of_tri Tryz.func161 rfl Tryz.ntmps161 rfl ?_
  (repeat' first|(refine Ka ?_;first|refine Kb ?_|(refine Kc ?_;intro _))|refine Kd ?_|(refine Ki ?_;refine Kj ?_)|exact Kk|refine Kl ?_ ?_|(refine Km ?_;first|refine Kn ?_|(refine Ko ?_;intro _))|(refine Kp ?_;first|refine Kq ?_|refine Kr ?_)|refine Kh ?_)
  refine Tri.dr (.take 0 (.take 1 (.take 2 (.take 4 (.take 5 (.all [(3,.all [(6,.all [(7,.done)])])])))))) ?_
  (repeat' first|(refine Ka ?_;first|refine Kb ?_|(refine Kc ?_;intro _))|refine Kd ?_|(refine Ki ?_;refine Kj ?_)|exact Kk|refine Kl ?_ ?_|(refine Km ?_;first|refine Kn ?_|(refine Ko ?_;intro _))|(refine Kp ?_;first|refine Kq ?_|refine Kr ?_)|refine Kh ?_)
  refine T1.call rfl rfl rfl rfl (times_ok (a:=x.natAbs) (b:=m) ha hb) ?_
  rintro _ _ ⟨p,cap,rfl,rfl⟩
  (repeat' first|(refine Ka ?_;first|refine Kb ?_|(refine Kc ?_;intro _))|refine Kd ?_|(refine Ki ?_;refine Kj ?_)|exact Kk|refine Kl ?_ ?_|(refine Km ?_;first|refine Kn ?_|(refine Ko ?_;intro _))|(refine Kp ?_;first|refine Kq ?_|refine Kr ?_)|refine Kh ?_)
  refine T1.call rfl rfl rfl rfl (signed_ok (n:=x.natAbs * m)) ?_
  rintro _ _ ⟨rfl,rfl⟩
  (repeat' first|(refine Ka ?_;first|refine Kb ?_|(refine Kc ?_;intro _))|refine Kd ?_|(refine Ki ?_;refine Kj ?_)|exact Kk|refine Kl ?_ ?_|(refine Km ?_;first|refine Kn ?_|(refine Ko ?_;intro _))|(refine Kp ?_;first|refine Kq ?_|refine Kr ?_)|refine Kh ?_)
  (refine Post.ra ?_)
  exact ⟨_,sgnR_of e1 scaled_sign,by (exact Ents.au)⟩
end Go.Proofs.YtgapnfaakdjpaaaGreatDoor.Q
namespace Go.Sx
open Go
theorem exact_abs {z:Int} {h:Nat} (h0:h≠0) (hd:h ∣ z.natAbs):(z / (h:Int)).natAbs=z.natAbs / h∧decide (z / (h:Int) < 0)=(decide (z < 0)&&decide (z.natAbs / h≠0)):=by
  obtain ⟨e1,e2⟩:=floor_abs (x:=z) h0
  have h1:z.natAbs % h=0:=Nat.mod_eq_zero_of_dvd hd
  rw [if_neg (by omega)] at e1 e2
  exact ⟨e1,e2⟩
def ordQ (x y:Rat):Int:=signI (x.num * (y.den:Int) - y.num * (x.den:Int))
theorem ordQ_lt {x y:Rat}:ordQ x y < 0↔x < y:=by
  have h:=(rat_sign x y).1
  unfold ordQ signI
  rw [← h]
  split<;>(try split)<;>omega
theorem ordQ_gt {x y:Rat}:0 < ordQ x y↔y < x:=by
  have h:=(rat_sign y x).1
  unfold ordQ signI
  rw [← h]
  split<;>(try split)<;>omega
end Go.Sx
namespace Go.Proofs.YtgapnfaakdjpaaaGreatDoor.Q
open Go Go.Sx
variable {w0:World} {As:List Ent}
def RatR (As:List Ent) (r:Rat) (u:Value) (Bs:List Ent):Prop:=∃ p cap q cap',u=.agg #[.slice p (mag r.num.natAbs).length cap,.bool (decide (r.num < 0)),.slice q (mag r.den).length cap']∧Bs=.ft (rd (cN .u32) (.slice p (mag r.num.natAbs).length cap) (mag r.num.natAbs))::.ft (rd (cN .u32) (.slice q (mag r.den).length cap') (mag r.den))::As
def Ln (k:Nat) (r:Rat):Prop:=(mag r.num.natAbs).length≤k∧(mag r.den).length≤k
theorem Ln.mono {k l:Nat} {r:Rat} (h:Ln k r) (hk:k≤l):Ln l r:=⟨Nat.le_trans h.1 hk,Nat.le_trans h.2 hk⟩
theorem Ln.add {a b:Nat} {r s:Rat} (hr:Ln a r) (hs:Ln b s):Ln (a+b+1) (r+s):=by
  obtain ⟨r1,r2⟩:=hr
  obtain ⟨s1,s2⟩:=hs
  constructor
  · rw [Rat.num_add]
    refine Nat.le_trans (mag_len_le (Int.natAbs_ediv_le_natAbs _ _)) ?_
    refine Nat.le_trans (mag_len_le (Int.natAbs_add_le _ _)) ?_
    refine Nat.le_trans (mag_len_add _ _) ?_
    rw [Int.natAbs_mul,Int.natAbs_mul,Int.natAbs_natCast,Int.natAbs_natCast]
    have h1:=mag_len_mul r.num.natAbs s.den
    have h2:=mag_len_mul s.num.natAbs r.den
    omega
  · rw [Rat.den_add]
    refine Nat.le_trans (mag_len_le (Nat.div_le_self _ _)) ?_
    have h1:=mag_len_mul r.den s.den
    omega
theorem Ln.mul {a b:Nat} {r s:Rat} (hr:Ln a r) (hs:Ln b s):Ln (a+b) (r * s):=by
  obtain ⟨r1,r2⟩:=hr
  obtain ⟨s1,s2⟩:=hs
  constructor
  · rw [Rat.num_mul]
    refine Nat.le_trans (mag_len_le (Int.natAbs_ediv_le_natAbs _ _)) ?_
    rw [Int.natAbs_mul]
    have h1:=mag_len_mul r.num.natAbs s.num.natAbs
    omega
  · rw [Rat.den_mul]
    refine Nat.le_trans (mag_len_le (Nat.div_le_self _ _)) ?_
    have h1:=mag_len_mul r.den s.den
    omega
theorem Ln.neg {a:Nat} {r:Rat} (hr:Ln a r):Ln a (-r):=⟨by rw [Rat.neg_num,Int.natAbs_neg];exact hr.1,hr.2⟩
theorem Ln.inv {a:Nat} {r:Rat} (hr:Ln a r):Ln a r⁻¹:=by
  by_cases h:r=0
  · subst h;rw [Rat.inv_zero];exact hr
  · obtain ⟨h1,h2⟩:=rat_inv r h
    refine ⟨?_,by rw [h2];exact hr.1⟩
    rw [h1]
    have e:(if r.num < 0 then -(r.den:Int) else (r.den:Int)).natAbs=r.den:=by split<;>omega
    rw [e];exact hr.2
section
variable {mv bv nv cv:Value} {x y:Rat}
theorem order_ok [hm:RdIn As mv Nat (cN .u32) (mag x.num.natAbs)] [hb:RdIn As bv Nat (cN .u32) (mag x.den)] [hn:RdIn As nv Nat (cN .u32) (mag y.num.natAbs)] [hc:RdIn As cv Nat (cN .u32) (mag y.den)] (hx:Ln 40000000 x) (hy:Ln 40000000 y) :
    CallsS Tryz.prog w0 136 [.agg #[mv,.bool (decide (x.num < 0)),bv],.agg #[nv,.bool (decide (y.num < 0)),cv]] As fun u Bs=>u=.int .i64 (ordQ x y)∧Bs=As:=by
  refine CallsS.rdSl mv fun p1 c1 h1=>CallsS.rdSl bv fun p2 c2 h2=>CallsS.rdSl nv fun p3 c3 h3=>CallsS.rdSl cv fun p4 c4 h4=>?_
  subst h1 h2 h3 h4
  obtain ⟨hx1,hx2⟩:=hx
  obtain ⟨hy1,hy2⟩:=hy
  have m1:(mag (x.num * (y.den:Int)).natAbs).length≤80000000:=by
    rw [Int.natAbs_mul,Int.natAbs_natCast]
    have:=mag_len_mul x.num.natAbs y.den
    omega
  have m2:(mag (-(y.num * (x.den:Int))).natAbs).length≤80000000:=by
    rw [Int.natAbs_neg,Int.natAbs_mul,Int.natAbs_natCast]
    have:=mag_len_mul y.num.natAbs x.den
    omega
  have e2:mag (y.num * (x.den:Int)).natAbs=mag (-(y.num * (x.den:Int))).natAbs:=by rw [Int.natAbs_neg]
  refine CallsS.of_tri Tryz.func136 rfl Tryz.ntmps136 rfl ?_
  (repeat' first|(refine Ka ?_;first|refine Kb ?_|(refine Kc ?_;intro _))|refine Kd ?_|refine Kh ?_)
  refine Tri.dr (.take 0 (.take 1 (.take 2 (.take 3 (.take 5 (.take 6 (.take 7 (.take 8 (.all [(4,.all [(9,.all [(10,.all [(11,.all [(12,.take 13 (.done))])])])])]))))))))) ?_
  (repeat' first|(refine Ka ?_;first|refine Kb ?_|(refine Kc ?_;intro _))|refine Kd ?_|(refine Ki ?_;refine Kj ?_)|exact Kk|refine Kl ?_ ?_|(refine Km ?_;first|refine Kn ?_|(refine Ko ?_;intro _))|(refine Kp ?_;first|refine Kq ?_|refine Kr ?_)|refine Kh ?_)
  iterate 2
    all_goals
      first
        | (refine T1.callv rfl rfl rfl rfl rfl (scaled_ok (v:=.slice p1 (mag x.num.natAbs).length c1) (o:=.slice p4 (mag y.den).length c4) (x:=x.num) (m:=y.den) (by omega) (by omega)) ?_
           rintro _ _ ⟨qa,ka,rfl,rfl⟩)
        | (refine T1.callv rfl rfl rfl rfl rfl (scaled_ok (v:=.slice p3 (mag y.num.natAbs).length c3) (o:=.slice p2 (mag x.den).length c2) (x:=y.num) (m:=x.den) (by omega) (by omega)) ?_
           rintro _ _ ⟨qb,kb,rfl,rfl⟩)
      (repeat' first|(refine Ka ?_;first|refine Kb ?_|(refine Kc ?_;intro _))|refine Kd ?_|(refine Ki ?_;refine Kj ?_)|exact Kk|refine Kl ?_ ?_|(refine Km ?_;first|refine Kn ?_|(refine Ko ?_;intro _))|(refine Kp ?_;first|refine Kq ?_|refine Kr ?_)|refine Kh ?_)
  refine T1.callv rfl rfl rfl rfl rfl (opposite_ok (v:=.slice qb (mag (y.num * (x.den:Int)).natAbs).length kb) (x:=y.num * (x.den:Int))) ?_
  rintro _ _ ⟨rfl,rfl⟩
  (repeat' first|(refine Ka ?_;first|refine Kb ?_|(refine Kc ?_;intro _))|refine Kd ?_|(refine Ki ?_;refine Kj ?_)|exact Kk|refine Kl ?_ ?_|(refine Km ?_;first|refine Kn ?_|(refine Ko ?_;intro _))|(refine Kp ?_;first|refine Kq ?_|refine Kr ?_)|refine Kh ?_)
  rw [e2]
  refine T1.callv rfl rfl rfl rfl rfl (sum_ok (v:=.slice qa (mag (x.num * (y.den:Int)).natAbs).length ka) (o:=.slice qb (mag (-(y.num * (x.den:Int))).natAbs).length kb) (x:=x.num * (y.den:Int)) (y:=-(y.num * (x.den:Int))) (by omega) (by omega)) ?_
  rintro _ _ ⟨qc,kc,rfl,rfl⟩
  (repeat' first|(refine Ka ?_;first|refine Kb ?_|(refine Kc ?_;intro _))|refine Kd ?_|(refine Ki ?_;refine Kj ?_)|exact Kk|refine Kl ?_ ?_|(refine Km ?_;first|refine Kn ?_|(refine Ko ?_;intro _))|(refine Kp ?_;first|refine Kq ?_|refine Kr ?_)|refine Kh ?_)
  refine T1.callv rfl rfl rfl rfl rfl (sign_ok (v:=.slice qc (mag (x.num * (y.den:Int)+-(y.num * (x.den:Int))).natAbs).length kc) (x:=x.num * (y.den:Int)+-(y.num * (x.den:Int)))) ?_
  rintro _ _ ⟨rfl,rfl⟩
  (repeat' first|(refine Ka ?_;first|refine Kb ?_|(refine Kc ?_;intro _))|refine Kd ?_|(refine Ki ?_;refine Kj ?_)|exact Kk|refine Kl ?_ ?_|(refine Km ?_;first|refine Kn ?_|(refine Ko ?_;intro _))|(refine Kp ?_;first|refine Kq ?_|refine Kr ?_)|refine Kh ?_)
  (refine Post.ra ?_)
  exact ⟨_,⟨by rw [ordQ,Int.sub_eq_add_neg],rfl⟩,by (exact Ents.au)⟩
def minQ (x y:Rat):Rat:=if y < x then y else x
def maxQ (x y:Rat):Rat:=if x < y then y else x
def nearQ (x:Rat) (k:Nat):Int:=(x.num * ((k * 2:Nat):Int)+(x.den:Int)) / ((x.den * 2:Nat):Int)
theorem write_ok (ht:Tab w0) [hm:RdIn As mv Nat (cN .u32) (mag x.num.natAbs)] [hb:RdIn As bv Nat (cN .u32) (mag x.den)] (hx:Ln 1000000 x) :
    CallsS Tryz.prog w0 170 [.agg #[mv,.bool (decide (x.num < 0)),bv]] As fun u Bs=>u=.tuple #[.agg #[.string ⟨(outF x).1.toArray⟩,.string ⟨(outF x).2.1.toArray⟩],.int .i64 (outF x).2.2]∧Bs=As:=by
  refine CallsS.rdSl mv fun p1 c1 h1=>CallsS.rdSl bv fun p2 c2 h2=>?_
  subst h1 h2
  obtain ⟨hx1,hx2⟩:=hx
  have big:∀ {n:Nat},Lib.nDigits n≤600→(mag n).length≤1000:=fun {n} h=>by
    by_cases h0:n=0
    · rw [h0,mag_zero];simp
    · have h3:(mag n).length≠0:=fun h=>h0 (mag_len0.1 h)
      obtain ⟨d,hd⟩:∃ d,(mag n)[(mag n).length - 1]?=some d:=⟨_,List.getElem?_eq_getElem (by omega)⟩
      have:=nDigits_mag _ (mag_get hd).2.1
      omega
  have o1:(outW x.num).2=0↔Lib.nDigits x.num.natAbs≤600:=by
    unfold outW;split<;>simp<;>omega
  have o2:(outW (x.den:Int)).2=0↔Lib.nDigits x.den≤600:=by
    unfold outW;rw [Int.natAbs_natCast];split<;>simp<;>omega
  have hout:outF x=if Lib.nDigits x.num.natAbs≤600∧Lib.nDigits x.den≤600 then (textI x.num,textI (x.den:Int),0) else ([],[],6):=by
    unfold outF;simp only [o1,o2]
  have etd:textI (x.den:Int)=Lib.decDigits x.den:=by
    have:¬ ((x.den:Int) < 0):=by omega
    simp only [textI,Lib.itoa,if_neg this,Int.toNat_natCast]
  rw [hout]
  refine CallsS.of_tri Tryz.func170 rfl Tryz.ntmps170 rfl ?_
  (repeat' first|(refine Ka ?_;first|refine Kb ?_|(refine Kc ?_;intro _))|refine Kd ?_|refine Kh ?_)
  rename_i b1 b2
  refine TL.call rfl rfl rfl (length_ok ht (n:=x.num.natAbs) (by omega)) ?_
  rintro _ _ ⟨rfl,rfl⟩
  by_cases h1:Lib.nDigits x.num.natAbs≤600
  · (repeat' first|(refine Ka ?_;first|refine Kb ?_|(refine Kc ?_;intro _))|refine Kd ?_|refine Kh ?_)
    refine TL.call rfl rfl rfl (length_ok ht (n:=x.den) (by omega)) ?_
    rintro _ _ ⟨rfl,rfl⟩
    by_cases h2:Lib.nDigits x.den≤600
    · rw [if_pos ⟨h1,h2⟩]
      (repeat' first|(refine Ka ?_;first|refine Kb ?_|(refine Kc ?_;intro _))|refine Kd ?_|refine Kh ?_)
      refine Tri.dw (.cl b1 [.slice p1 (mag x.num.natAbs).length c1,.bool (decide (x.num < 0)),.slice p2 (mag x.den).length c2] 206::As) [] (.take 0 (.take 1 (.take 3 (.take 4 (.all [(2,.all [(5,.take 6 (.all [(7,.take 8 (.done))]))])]))))) ?_
      (repeat' first|(refine Ka ?_;first|refine Kb ?_|(refine Kc ?_;intro _))|refine Kd ?_|(refine Ki ?_;refine Kj ?_)|exact Kk|refine Kl ?_ ?_|(refine Km ?_;first|refine Kn ?_|(refine Ko ?_;intro _))|(refine Kp ?_;first|refine Kq ?_|refine Kr ?_)|refine Kh ?_)
      iterate 2
        all_goals
          first
            | (refine T1.callv rfl rfl rfl rfl rfl (text_ok ht (v:=.slice p1 (mag x.num.natAbs).length c1) (z:=x.num) (big h1)) ?_
               rintro _ _ ⟨rfl,rfl⟩)
            | (refine T1.callv rfl rfl rfl rfl rfl (digits_ok ht (v:=.slice p2 (mag x.den).length c2) (n:=x.den) (big h2)) ?_
               rintro _ _ ⟨rfl,rfl⟩)
          (repeat' first|(refine Ka ?_;first|refine Kb ?_|(refine Kc ?_;intro _))|refine Kd ?_|(refine Ki ?_;refine Kj ?_)|exact Kk|refine Kl ?_ ?_|(refine Km ?_;first|refine Kn ?_|(refine Ko ?_;intro _))|(refine Kp ?_;first|refine Kq ?_|refine Kr ?_)|refine Kh ?_)
      all_goals
        (refine Post.ra ?_)
        exact ⟨_,⟨by rw [etd],rfl⟩,by (exact Ents.au)⟩
    · rw [if_neg (fun h=>h2 h.2)]
      (repeat' first|(refine Ka ?_;first|refine Kb ?_|(refine Kc ?_;intro _))|refine Kd ?_|(refine Ki ?_;refine Kj ?_)|exact Kk|refine Kl ?_ ?_|(refine Km ?_;first|refine Kn ?_|(refine Ko ?_;intro _))|(refine Kp ?_;first|refine Kq ?_|refine Kr ?_)|refine Kh ?_)
      (refine Post.ra ?_)
      exact ⟨_,⟨rfl,rfl⟩,by (exact Ents.au)⟩
  · rw [if_neg (fun h=>h1 h.1)]
    (repeat' first|(refine Ka ?_;first|refine Kb ?_|(refine Kc ?_;intro _))|refine Kd ?_|(refine Ki ?_;refine Kj ?_)|exact Kk|refine Kl ?_ ?_|(refine Km ?_;first|refine Kn ?_|(refine Ko ?_;intro _))|(refine Kp ?_;first|refine Kq ?_|refine Kr ?_)|refine Kh ?_)
    (refine Post.ra ?_)
    exact ⟨_,⟨rfl,rfl⟩,by (exact Ents.au)⟩
end
end Go.Proofs.YtgapnfaakdjpaaaGreatDoor.Q
